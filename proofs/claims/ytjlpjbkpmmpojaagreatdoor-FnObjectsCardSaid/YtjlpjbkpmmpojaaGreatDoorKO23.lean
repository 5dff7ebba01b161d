import Derived.Test.YtjlpjbkpmmpojaaGreatDoorKO21
import Derived.Test.YtjlpjbkpmmpojaaGreatDoorKO22
namespace Go.Proofs.YtjlpjbkpmmpojaaGreatDoor.All
open Go.RowKit Go.Proofs.YtjlpjbkpmmpojaaGreatDoorW.PrintWords Go.Proofs.YtjlpjbkpmmpojaaGreatDoorW.PrintLast Go.Proofs.YtjlpjbkpmmpojaaGreatDoorW.PrintMore
set_option maxHeartbeats 8000000
set_option maxRecDepth 100000
attribute [local go_sem] min2_int min_two
set_option linter.unusedVariables false
set_option linter.unusedSimpArgs false
attribute [local go_sem high] ccf0
theorem u30HB {p : Prop} (h : p := by repeat (first | (with_reducible first | exact HB.out | apply below_alloc | apply pw_below_drewN | apply below_drew1 | refine below_set ?_ GE19.out | refine below_set ?_ GE21.out) | exact HB.out)) : p := h
def spec_MayKeep.j0 : Nat → Bool → Int → ByteArray → List (S116) → ByteArray → Int → List (S116) → ByteArray → Option (Bool)
 | 0, _, _, _, _, _, _, _, _ => none
 | k + 1, x24, x100, x101, x85, x102, x106, x83, x109 => if x24 = true then (some false) else ((spec_CcOf.f k x85).bind fun bt57 => ((spec_CcOf.f k x83).bind fun bt59 => (if bt57.1 = true then (some false) else (if bt59.1 = true then (some false) else (if bt59.2.2.1 = true then (some false) else (if bt59.2.2.2.2.1 = true then ((spec_VaryOf.f k x83).bind fun t71 => ((spec_l9Names.f k t71).bind fun t73 => (some t73))) else (some false)))))))
def spec_MayKeep.f (k : Nat) (a0_0 : Int) (a0_1 : ByteArray) (l0_2 : List (S116)) (a0_3 : ByteArray) (a1_0 : Int) (l1_1 : List (S116)) (a1_2 : ByteArray) : Option (Bool) := (spec_ReqOk.f k a0_0 a0_1 l0_2 a0_3).bind fun t74 => (if t74 = true then ((spec_RespOk.f k a1_0 l1_1 a1_2).bind fun t75 => (if t75 = true then (if a0_0 = 1 then (spec_MayKeep.j0 k (a1_0 != 200) a0_0 a0_1 l0_2 a0_3 a1_0 l1_1 a1_2) else (spec_MayKeep.j0 k true a0_0 a0_1 l0_2 a0_3 a1_0 l1_1 a1_2)) else (spec_MayKeep.j0 k true a0_0 a0_1 l0_2 a0_3 a1_0 l1_1 a1_2))) else (spec_MayKeep.j0 k true a0_0 a0_1 l0_2 a0_3 a1_0 l1_1 a1_2))
def spec_MayKeep.T3 : Bool × List (List Nat × List Nat) := (true, [([], []), ([0], [0]), ([1], [1]), ([], []), ([3], [3]), ([4, 2], [4]), ([], []), ([], []), ([6, 2, 5, 0, 1, 2, 6, 7], [2, 6]), ([7, 5, 8, 0, 1, 2, 3, 4, 5, 6, 7, 8], [5, 7])])
def spec_MayKeep.B3 : List Nat := [0, 1, 3, 0, 8, 31, 0, 0, 255, 511]
theorem spec_MayKeep.tab3 : rtab .any (opsOf Tryz.f30 3) = spec_MayKeep.T3 := by kernel_rfl
theorem spec_MayKeep.bits3 : waitsOk spec_MayKeep.T3.2 spec_MayKeep.B3 = true := by kernel_rfl
theorem spec_MayKeep.calls (k : Nat) (a0_0 : Int) (a0_1 : ByteArray) (A0_2 : Option Addr) (c0_2 : Nat) (l0_2 : List (S116)) (a0_3 : ByteArray) (a1_0 : Int) (A1_1 : Option Addr) (c1_1 : Nat) (l1_1 : List (S116)) (a1_2 : ByteArray) (r : Bool) (w : World) (hr0_2 : Kd.C k116 w A0_2 l0_2.length l0_2) (hc0_2 : l0_2.length ≤ c0_2) (hr1_1 : Kd.C k116 w A1_1 l1_1.length l1_1) (hc1_1 : l1_1.length ≤ c1_1) (h : spec_MayKeep.f k a0_0 a0_1 l0_2 a0_3 a1_0 l1_1 a1_2 = some r) :
  Calls Tryz.prog 30 #[.agg #[.int .i64 a0_0, .string a0_1, .slice A0_2 l0_2.length c0_2, .string a0_3], .agg #[.int .i64 a1_0, .slice A1_1 l1_1.length c1_1, .string a1_2]] w fun e w' => e = .returned (.bool r) ∧ Below w.heap.size w w' := by
 have hu50 := Tryz.underlying50
 have hu29 := Tryz.underlying29
 have hu42 := Tryz.underlying42
 have HR0_2 := am hr0_2
 have HC0_2 := am hc0_2
 clear hr0_2 hc0_2
 have HR1_1 := am hr1_1
 have HC1_1 := am hc1_1
 clear hr1_1 hc1_1
 have HB := am (Below.refl w.heap.size w)
 unfold spec_MayKeep.f at h
 have H := h
 clear h
 have HC3 := am H
 clear H
 go_enter Tryz.func30, Tryz.ntmps30
 go_upto_region 1 with ((with_reducible refine gw ?_); first | (refine bx 2 #[.int .i64 a0_0, .string a0_1, .slice A0_2 l0_2.length c0_2, .string a0_3] 50 ?_; intro gb19 hg w4 hbox hb; have BK19 := am (hbox); have GW19 := am (sz hg : w.heap.size ≤ gb19); have GE19 := am (sz hg : w.heap.size ≤ gb19); replace HB := am (below_step bl hb); clear hb hbox hg) | (refine bx 3 #[.int .i64 a1_0, .slice A1_1 l1_1.length c1_1, .string a1_2] 29 ?_; intro gb21 hg w5 hbox hb; have BK21 := am (hbox); have GW21 := am (sz hg : w.heap.size ≤ gb21); have GE21 := am (sz hg : w.heap.size ≤ gb21); replace HB := am (below_step bl hb); have NB19_21 := am (nl hg BK19 : gb19 ≠ gb21); have NB21_19 := am (ng hg BK19 : gb21 ≠ gb19); replace BK19 := kb BK19 hb; clear hb hbox hg))
 (try simp only [Act.put, List.setIfInBounds_toArray, List.set_cons_zero, List.set_cons_succ])
 go_cut [24] (fun v24 wc => ∃ (kq : Nat) (x24_2 : Bool), v24 = .bool x24_2 ∧ Aside0 (spec_MayKeep.j0 kq x24_2 a0_0 a0_1 l0_2 a0_3 a1_0 l1_1 a1_2 = some r) ∧ Aside0 (kq ≤ k) ∧ Aside0 (wc.heap[gb19]? = some (.cells #[.int .i64 a0_0, .string a0_1, (.slice A0_2 l0_2.length c0_2), .string a0_3] 50 (0, 0))) ∧ Aside0 (wc.heap[gb21]? = some (.cells #[.int .i64 a1_0, (.slice A1_1 l1_1.length c1_1), .string a1_2] 29 (0, 0))) ∧ Aside0 (Below w.heap.size w wc))
 case first =>
  have H := HC3.out
  clear HC3
  revert H
  refine ok1 fun t74 A6 H => ?_
  by_cases c7 : t74 = true
  rotate_left
  ·replace c7 := nb_ c7
   subst c7
   rw [if_neg ff_] at H
   have H' := am H
   clear H
   have hnb29 := NB19_21.out
   have hnc29 := NB21_19.out
   obtain ⟨_, _, _, _, _, _, _, _⟩ := cl4 BK19
   go_wp2_with ((with_reducible refine gw ?_); first | (refine gl 8 Tryz.func91 #[.agg #[.int .i64 a0_0, .string a0_1, .slice A0_2 l0_2.length c0_2, .string a0_3]] ?_; refine (spec_ReqOk.calls k a0_0 a0_1 _ _ l0_2 a0_3 false _ (cb HR0_2) HC0_2.out A6.out).mono ?_; rintro e w31 ⟨rfl, hb⟩; refine ⟨_, rfl, ?_⟩; replace BK19 := kb BK19 hb; replace BK21 := kb BK21 hb; replace HB := am (below_step bl hb); clear hb))
   go_meet
   case rel => exact ⟨_, (true), rs, H', ⟨by first | omega | exact Nat.le_refl _⟩, ⟨bk BK19⟩, ⟨bk BK21⟩, ⟨u30HB⟩⟩
  subst c7
  rw [if_pos rfl] at H
  revert H
  refine ok1 fun t75 A8 H => ?_
  by_cases c9 : t75 = true
  rotate_left
  ·replace c9 := nb_ c9
   subst c9
   rw [if_neg ff_] at H
   have H' := am H
   clear H
   have hnb24 := NB19_21.out
   have hnc24 := NB21_19.out
   obtain ⟨_, _, _, _, _, _, _, _⟩ := cl4 BK19
   go_wp2_with (first | ((with_reducible refine gw ?_); first | (refine gl 8 Tryz.func91 #[.agg #[.int .i64 a0_0, .string a0_1, .slice A0_2 l0_2.length c0_2, .string a0_3]] ?_; refine (spec_ReqOk.calls k a0_0 a0_1 _ _ l0_2 a0_3 true _ (cb HR0_2) HC0_2.out A6.out).mono ?_; rintro e w26 ⟨rfl, hb⟩; refine ⟨_, rfl, ?_⟩; replace BK19 := kb BK19 hb; replace BK21 := kb BK21 hb; replace HB := am (below_step bl hb); clear hb; obtain ⟨_, _, _, _, _, _⟩ := cl3 BK21)) | (go_at_call 92; refine (spec_RespOk.calls k a1_0 _ _ l1_1 a1_2 false _ (cb HR1_1) HC1_1.out A8.out).mono ?_; rintro e w28 ⟨rfl, hb⟩; replace BK19 := kb BK19 hb; replace BK21 := kb BK21 hb; replace HB := am (below_step bl hb); clear hb))
   go_meet
   case rel => exact ⟨_, (true), rs, H', ⟨by first | omega | exact Nat.le_refl _⟩, ⟨bk BK19⟩, ⟨bk BK21⟩, ⟨u30HB⟩⟩
  subst c9
  rw [if_pos rfl] at H
  by_cases c10 : a0_0 = 1
  rotate_left
  ·rw [if_neg c10] at H
   have c10b0 := eqf c10
   have c10b1 := net c10
   (first | rw [c10b0] | (simp only [i64_w, i32_w]; rw [c10b0]) | skip)
   have H' := am H
   clear H
   have hnb18 := NB19_21.out
   have hnc18 := NB21_19.out
   obtain ⟨_, _, _, _, _, _, _, _⟩ := cl4 BK19
   go_wp2_with (first | ((with_reducible refine gw ?_); first | (refine gl 8 Tryz.func91 #[.agg #[.int .i64 a0_0, .string a0_1, .slice A0_2 l0_2.length c0_2, .string a0_3]] ?_; refine (spec_ReqOk.calls k a0_0 a0_1 _ _ l0_2 a0_3 true _ (cb HR0_2) HC0_2.out A6.out).mono ?_; rintro e w20 ⟨rfl, hb⟩; refine ⟨_, rfl, ?_⟩; replace BK19 := kb BK19 hb; replace BK21 := kb BK21 hb; replace HB := am (below_step bl hb); clear hb; obtain ⟨_, _, _, _, _, _⟩ := cl3 BK21)) | (go_at_call 92; refine (spec_RespOk.calls k a1_0 _ _ l1_1 a1_2 true _ (cb HR1_1) HC1_1.out A8.out).mono ?_; rintro e w22 ⟨rfl, hb⟩; replace BK19 := kb BK19 hb; replace BK21 := kb BK21 hb; replace HB := am (below_step bl hb); clear hb; obtain ⟨_, _, _, _, _, _, _, _⟩ := cl4 BK19))
   go_meet
   case rel => exact ⟨_, (true), rs, H', ⟨by first | omega | exact Nat.le_refl _⟩, ⟨bk BK19⟩, ⟨bk BK21⟩, ⟨u30HB⟩⟩
  rw [if_pos c10] at H
  have c10b0 := eqt c10
  have c10b1 := nef c10
  clear c10
  (first | rw [c10b0] | (simp only [i64_w, i32_w]; rw [c10b0]) | skip)
  have H' := am H
  clear H
  have hnb11 := NB19_21.out
  have hnc11 := NB21_19.out
  obtain ⟨_, _, _, _, _, _, _, _⟩ := cl4 BK19
  go_wp2_with (first | ((with_reducible refine gw ?_); first | (refine gl 8 Tryz.func91 #[.agg #[.int .i64 a0_0, .string a0_1, .slice A0_2 l0_2.length c0_2, .string a0_3]] ?_; refine (spec_ReqOk.calls k a0_0 a0_1 _ _ l0_2 a0_3 true _ (cb HR0_2) HC0_2.out A6.out).mono ?_; rintro e w13 ⟨rfl, hb⟩; refine ⟨_, rfl, ?_⟩; replace BK19 := kb BK19 hb; replace BK21 := kb BK21 hb; replace HB := am (below_step bl hb); clear hb; obtain ⟨_, _, _, _, _, _⟩ := cl3 BK21)) | (go_at_call 92; refine (spec_RespOk.calls k a1_0 _ _ l1_1 a1_2 true _ (cb HR1_1) HC1_1.out A8.out).mono ?_; rintro e w15 ⟨rfl, hb⟩; replace BK19 := kb BK19 hb; replace BK21 := kb BK21 hb; replace HB := am (below_step bl hb); clear hb; obtain ⟨_, _, _, _, _, _, _, _⟩ := cl4 BK19; obtain ⟨_, _, _, _, _, _⟩ := cl3 BK21))
  go_meet
  case rel => exact ⟨_, ((a1_0 != 200)), rs, H', ⟨by first | omega | exact Nat.le_refl _⟩, ⟨bk BK19⟩, ⟨bk BK21⟩, ⟨u30HB⟩⟩
 case rest =>
  clear HC3
  obtain ⟨kq, x24_2, rfl, HA, HJ2, BK19, BK21, HB⟩ := hcut
  cases kq with
  | zero => exact absurd HA.out (by simp [spec_MayKeep.j0])
  | succ kj2 =>
   have H := HA.out
   clear HA
   simp only [spec_MayKeep.j0] at H
   by_cases c32 : x24_2 = true
   ·subst c32
    rw [if_pos rfl] at H
    obtain rfl := si_ H
    go_wp2
    go_ret
    exact ⟨rf, bl⟩
   replace c32 := nb_ c32
   subst c32
   rw [if_neg ff_] at H
   revert H
   refine ok6 fun t57 t60 t61 t62 t63 t65 A33 H => ?_
   (try dsimp only at H)
   revert H
   refine ok6 fun t59 t66 t67 t68 t69 t70 A34 H => ?_
   (try dsimp only at H)
   have HH_ := am H
   clear H
   try go_wp2
   replace BK19 := am (blk_drew BK19.out)
   replace BK21 := am (blk_drew BK21.out)
   replace HB := am (below_drew1 HB.out)
   refine start_ (n := 10) (S := fun w' => w'.cell? ⟨gb19, 0, none⟩ = some (.int .i64 a0_0) ∧ w'.cell? ⟨gb19, 1, none⟩ = some (.string a0_1) ∧ w'.cell? ⟨gb19, 2, none⟩ = some (.slice A0_2 l0_2.length c0_2) ∧ w'.cell? ⟨gb19, 3, none⟩ = some (.string a0_3) ∧ w'.cell? ⟨gb21, 0, none⟩ = some (.int .i64 a1_0) ∧ w'.cell? ⟨gb21, 1, none⟩ = some (.slice A1_1 l1_1.length c1_1) ∧ w'.cell? ⟨gb21, 2, none⟩ = some (.string a1_2)) (ds := []) ⟨br true [0, 10]⟩ (by kernel_rfl) rfl (by kernel_rfl) ⟨bc BK19, bc BK19, bc BK19, bc BK19, bc BK21, bc BK21, bc BK21⟩ (fun hHeld => ?_); refine with_tabW spec_MayKeep.tab3 spec_MayKeep.bits3 (fun HT_ HW_ => ?_)
   generalize wc.drew = w36 at BK19 BK21 HB hHeld ⊢
   refine pu 0 25 [1, 9] ?_
   refine pu 3 28 [1, 2, 1, 6] ?_
   refine tk 1 26 [2, 1, 1, 6] ?_
   refine tk 4 29 [2, 1, 2, 5] ?_
   refine join_ (σ := Nat × Nat) 2 #[true, true, true, true, true, true, true, true, false, false] (fun s_ => [(27, .agg #[.bool t57, .bool t60, .bool t61, .bool t62, .bool t63, .int .i64 t65]), (30, .agg #[.bool t59, .bool t66, .bool t67, .bool t68, .bool t69, .int .i64 t70]), (5, .pointer (some ⟨s_.1, 0, none⟩)), (6, .pointer (some ⟨s_.2, 0, none⟩))]) (fun s_ w' => (w'.cell? ⟨gb19, 0, none⟩ = some (.int .i64 a0_0) ∧ w'.cell? ⟨gb19, 1, none⟩ = some (.string a0_1) ∧ w'.cell? ⟨gb19, 2, none⟩ = some (.slice A0_2 l0_2.length c0_2) ∧ w'.cell? ⟨gb19, 3, none⟩ = some (.string a0_3) ∧ w'.cell? ⟨gb21, 0, none⟩ = some (.int .i64 a1_0) ∧ w'.cell? ⟨gb21, 1, none⟩ = some (.slice A1_1 l1_1.length c1_1) ∧ w'.cell? ⟨gb21, 2, none⟩ = some (.string a1_2)) ∧ (w'.heap[gb19]? = some (.cells #[.int .i64 a0_0, .string a0_1, .slice A0_2 l0_2.length c0_2, .string a0_3] 50 (0, 0))) ∧ (w'.heap[gb21]? = some (.cells #[.int .i64 a1_0, .slice A1_1 l1_1.length c1_1, .string a1_2] 29 (0, 0))) ∧ (w'.heap[s_.1]? = some (.cells #[.bool false, .bool false, .bool false, .bool false, .bool false, .int .i64 0] 42 (0, 0))) ∧ (w'.heap[s_.2]? = some (.cells #[.bool false, .bool false, .bool false, .bool false, .bool false, .int .i64 0] 42 (0, 0))) ∧ (w.heap.size ≤ s_.1) ∧ (w.heap.size ≤ s_.1) ∧ (gb19 ≠ s_.1) ∧ (s_.1 ≠ gb19) ∧ (gb21 ≠ s_.1) ∧ (s_.1 ≠ gb21) ∧ (s_.2 ≠ s_.1) ∧ (s_.1 ≠ s_.2) ∧ (w.heap.size ≤ s_.2) ∧ (w.heap.size ≤ s_.2) ∧ (gb19 ≠ s_.2) ∧ (s_.2 ≠ gb19) ∧ (gb21 ≠ s_.2) ∧ (s_.2 ≠ gb21) ∧ (Below w.heap.size w w')) ?_ ?_
   rotate_left
   ·intro hJ2_5_6_7
    refine join_ (σ := Nat) 3 #[true, true, true, true, true, true, true, false, false, false] (fun s_ => [(27, .agg #[.bool t57, .bool t60, .bool t61, .bool t62, .bool t63, .int .i64 t65]), (30, .agg #[.bool t59, .bool t66, .bool t67, .bool t68, .bool t69, .int .i64 t70]), (5, .pointer (some ⟨s_, 0, none⟩))]) (fun s_ w' => (w'.cell? ⟨gb19, 0, none⟩ = some (.int .i64 a0_0) ∧ w'.cell? ⟨gb19, 1, none⟩ = some (.string a0_1) ∧ w'.cell? ⟨gb19, 2, none⟩ = some (.slice A0_2 l0_2.length c0_2) ∧ w'.cell? ⟨gb19, 3, none⟩ = some (.string a0_3) ∧ w'.cell? ⟨gb21, 0, none⟩ = some (.int .i64 a1_0) ∧ w'.cell? ⟨gb21, 1, none⟩ = some (.slice A1_1 l1_1.length c1_1) ∧ w'.cell? ⟨gb21, 2, none⟩ = some (.string a1_2)) ∧ (w'.heap[gb19]? = some (.cells #[.int .i64 a0_0, .string a0_1, .slice A0_2 l0_2.length c0_2, .string a0_3] 50 (0, 0))) ∧ (w'.heap[gb21]? = some (.cells #[.int .i64 a1_0, .slice A1_1 l1_1.length c1_1, .string a1_2] 29 (0, 0))) ∧ (w'.heap[s_]? = some (.cells #[.bool false, .bool false, .bool false, .bool false, .bool false, .int .i64 0] 42 (0, 0))) ∧ (w.heap.size ≤ s_) ∧ (w.heap.size ≤ s_) ∧ (gb19 ≠ s_) ∧ (s_ ≠ gb19) ∧ (gb21 ≠ s_) ∧ (s_ ≠ gb21) ∧ (Below w.heap.size w w')) ?_ ?_
    rotate_left
    ·intro hJ2_5_6
     refine join_ (σ := Nat) 3 #[true, true, true, true, true, true, false, true, false, false] (fun s_ => [(27, .agg #[.bool t57, .bool t60, .bool t61, .bool t62, .bool t63, .int .i64 t65]), (30, .agg #[.bool t59, .bool t66, .bool t67, .bool t68, .bool t69, .int .i64 t70]), (6, .pointer (some ⟨s_, 0, none⟩))]) (fun s_ w' => (w'.cell? ⟨gb19, 0, none⟩ = some (.int .i64 a0_0) ∧ w'.cell? ⟨gb19, 1, none⟩ = some (.string a0_1) ∧ w'.cell? ⟨gb19, 2, none⟩ = some (.slice A0_2 l0_2.length c0_2) ∧ w'.cell? ⟨gb19, 3, none⟩ = some (.string a0_3) ∧ w'.cell? ⟨gb21, 0, none⟩ = some (.int .i64 a1_0) ∧ w'.cell? ⟨gb21, 1, none⟩ = some (.slice A1_1 l1_1.length c1_1) ∧ w'.cell? ⟨gb21, 2, none⟩ = some (.string a1_2)) ∧ (w'.heap[gb19]? = some (.cells #[.int .i64 a0_0, .string a0_1, .slice A0_2 l0_2.length c0_2, .string a0_3] 50 (0, 0))) ∧ (w'.heap[gb21]? = some (.cells #[.int .i64 a1_0, .slice A1_1 l1_1.length c1_1, .string a1_2] 29 (0, 0))) ∧ (w'.heap[s_]? = some (.cells #[.bool false, .bool false, .bool false, .bool false, .bool false, .int .i64 0] 42 (0, 0))) ∧ (w.heap.size ≤ s_) ∧ (w.heap.size ≤ s_) ∧ (gb19 ≠ s_) ∧ (s_ ≠ gb19) ∧ (gb21 ≠ s_) ∧ (s_ ≠ gb21) ∧ (Below w.heap.size w w')) ?_ ?_
     rotate_left
     ·intro hJ2_5_7
      refine join_ (σ := Nat × Nat) 3 #[true, true, true, true, true, false, true, true, false, false] (fun s_ => [(27, .agg #[.bool t57, .bool t60, .bool t61, .bool t62, .bool t63, .int .i64 t65]), (5, .pointer (some ⟨s_.1, 0, none⟩)), (6, .pointer (some ⟨s_.2, 0, none⟩))]) (fun s_ w' => (w'.cell? ⟨gb19, 0, none⟩ = some (.int .i64 a0_0) ∧ w'.cell? ⟨gb19, 1, none⟩ = some (.string a0_1) ∧ w'.cell? ⟨gb19, 2, none⟩ = some (.slice A0_2 l0_2.length c0_2) ∧ w'.cell? ⟨gb19, 3, none⟩ = some (.string a0_3) ∧ w'.cell? ⟨gb21, 0, none⟩ = some (.int .i64 a1_0) ∧ w'.cell? ⟨gb21, 1, none⟩ = some (.slice A1_1 l1_1.length c1_1) ∧ w'.cell? ⟨gb21, 2, none⟩ = some (.string a1_2)) ∧ (w'.heap[gb19]? = some (.cells #[.int .i64 a0_0, .string a0_1, .slice A0_2 l0_2.length c0_2, .string a0_3] 50 (0, 0))) ∧ (w'.heap[gb21]? = some (.cells #[.int .i64 a1_0, .slice A1_1 l1_1.length c1_1, .string a1_2] 29 (0, 0))) ∧ (w'.heap[s_.1]? = some (.cells #[.bool false, .bool false, .bool false, .bool false, .bool false, .int .i64 0] 42 (0, 0))) ∧ (w'.heap[s_.2]? = some (.cells #[.bool false, .bool false, .bool false, .bool false, .bool false, .int .i64 0] 42 (0, 0))) ∧ (w.heap.size ≤ s_.1) ∧ (w.heap.size ≤ s_.1) ∧ (gb19 ≠ s_.1) ∧ (s_.1 ≠ gb19) ∧ (gb21 ≠ s_.1) ∧ (s_.1 ≠ gb21) ∧ (s_.2 ≠ s_.1) ∧ (s_.1 ≠ s_.2) ∧ (w.heap.size ≤ s_.2) ∧ (w.heap.size ≤ s_.2) ∧ (gb19 ≠ s_.2) ∧ (s_.2 ≠ gb19) ∧ (gb21 ≠ s_.2) ∧ (s_.2 ≠ gb21) ∧ (Below w.heap.size w w')) ?_ ?_
      rotate_left
      ·intro hJ2_6_7
       refine join_ (σ := Unit) 4 #[true, true, true, true, true, true, false, false, false, false] (fun s_ => [(27, .agg #[.bool t57, .bool t60, .bool t61, .bool t62, .bool t63, .int .i64 t65]), (30, .agg #[.bool t59, .bool t66, .bool t67, .bool t68, .bool t69, .int .i64 t70])]) (fun s_ w' => (w'.cell? ⟨gb19, 0, none⟩ = some (.int .i64 a0_0) ∧ w'.cell? ⟨gb19, 1, none⟩ = some (.string a0_1) ∧ w'.cell? ⟨gb19, 2, none⟩ = some (.slice A0_2 l0_2.length c0_2) ∧ w'.cell? ⟨gb19, 3, none⟩ = some (.string a0_3) ∧ w'.cell? ⟨gb21, 0, none⟩ = some (.int .i64 a1_0) ∧ w'.cell? ⟨gb21, 1, none⟩ = some (.slice A1_1 l1_1.length c1_1) ∧ w'.cell? ⟨gb21, 2, none⟩ = some (.string a1_2)) ∧ (w'.heap[gb19]? = some (.cells #[.int .i64 a0_0, .string a0_1, .slice A0_2 l0_2.length c0_2, .string a0_3] 50 (0, 0))) ∧ (w'.heap[gb21]? = some (.cells #[.int .i64 a1_0, .slice A1_1 l1_1.length c1_1, .string a1_2] 29 (0, 0))) ∧ (Below w.heap.size w w')) ?_ ?_
       rotate_left
       ·intro hJ2_5
        refine join_ (σ := Nat) 4 #[true, true, true, true, true, false, true, false, false, false] (fun s_ => [(27, .agg #[.bool t57, .bool t60, .bool t61, .bool t62, .bool t63, .int .i64 t65]), (5, .pointer (some ⟨s_, 0, none⟩))]) (fun s_ w' => (w'.cell? ⟨gb19, 0, none⟩ = some (.int .i64 a0_0) ∧ w'.cell? ⟨gb19, 1, none⟩ = some (.string a0_1) ∧ w'.cell? ⟨gb19, 2, none⟩ = some (.slice A0_2 l0_2.length c0_2) ∧ w'.cell? ⟨gb19, 3, none⟩ = some (.string a0_3) ∧ w'.cell? ⟨gb21, 0, none⟩ = some (.int .i64 a1_0) ∧ w'.cell? ⟨gb21, 1, none⟩ = some (.slice A1_1 l1_1.length c1_1) ∧ w'.cell? ⟨gb21, 2, none⟩ = some (.string a1_2)) ∧ (w'.heap[gb19]? = some (.cells #[.int .i64 a0_0, .string a0_1, .slice A0_2 l0_2.length c0_2, .string a0_3] 50 (0, 0))) ∧ (w'.heap[gb21]? = some (.cells #[.int .i64 a1_0, .slice A1_1 l1_1.length c1_1, .string a1_2] 29 (0, 0))) ∧ (w'.heap[s_]? = some (.cells #[.bool false, .bool false, .bool false, .bool false, .bool false, .int .i64 0] 42 (0, 0))) ∧ (w.heap.size ≤ s_) ∧ (w.heap.size ≤ s_) ∧ (gb19 ≠ s_) ∧ (s_ ≠ gb19) ∧ (gb21 ≠ s_) ∧ (s_ ≠ gb21) ∧ (Below w.heap.size w w')) ?_ ?_
        rotate_left
        ·intro hJ2_6
         refine join_ (σ := Nat) 4 #[true, true, true, true, true, false, false, true, false, false] (fun s_ => [(27, .agg #[.bool t57, .bool t60, .bool t61, .bool t62, .bool t63, .int .i64 t65]), (6, .pointer (some ⟨s_, 0, none⟩))]) (fun s_ w' => (w'.cell? ⟨gb19, 0, none⟩ = some (.int .i64 a0_0) ∧ w'.cell? ⟨gb19, 1, none⟩ = some (.string a0_1) ∧ w'.cell? ⟨gb19, 2, none⟩ = some (.slice A0_2 l0_2.length c0_2) ∧ w'.cell? ⟨gb19, 3, none⟩ = some (.string a0_3) ∧ w'.cell? ⟨gb21, 0, none⟩ = some (.int .i64 a1_0) ∧ w'.cell? ⟨gb21, 1, none⟩ = some (.slice A1_1 l1_1.length c1_1) ∧ w'.cell? ⟨gb21, 2, none⟩ = some (.string a1_2)) ∧ (w'.heap[gb19]? = some (.cells #[.int .i64 a0_0, .string a0_1, .slice A0_2 l0_2.length c0_2, .string a0_3] 50 (0, 0))) ∧ (w'.heap[gb21]? = some (.cells #[.int .i64 a1_0, .slice A1_1 l1_1.length c1_1, .string a1_2] 29 (0, 0))) ∧ (w'.heap[s_]? = some (.cells #[.bool false, .bool false, .bool false, .bool false, .bool false, .int .i64 0] 42 (0, 0))) ∧ (w.heap.size ≤ s_) ∧ (w.heap.size ≤ s_) ∧ (gb19 ≠ s_) ∧ (s_ ≠ gb19) ∧ (gb21 ≠ s_) ∧ (s_ ≠ gb21) ∧ (Below w.heap.size w w')) ?_ ?_
         rotate_left
         ·intro hJ2_7
          refine join_ (σ := Nat × Nat) 4 #[true, true, false, true, true, false, true, true, false, false] (fun s_ => [(5, .pointer (some ⟨s_.1, 0, none⟩)), (6, .pointer (some ⟨s_.2, 0, none⟩))]) (fun s_ w' => (w'.cell? ⟨gb19, 0, none⟩ = some (.int .i64 a0_0) ∧ w'.cell? ⟨gb19, 1, none⟩ = some (.string a0_1) ∧ w'.cell? ⟨gb19, 2, none⟩ = some (.slice A0_2 l0_2.length c0_2) ∧ w'.cell? ⟨gb19, 3, none⟩ = some (.string a0_3) ∧ w'.cell? ⟨gb21, 0, none⟩ = some (.int .i64 a1_0) ∧ w'.cell? ⟨gb21, 1, none⟩ = some (.slice A1_1 l1_1.length c1_1) ∧ w'.cell? ⟨gb21, 2, none⟩ = some (.string a1_2)) ∧ (w'.heap[gb19]? = some (.cells #[.int .i64 a0_0, .string a0_1, .slice A0_2 l0_2.length c0_2, .string a0_3] 50 (0, 0))) ∧ (w'.heap[gb21]? = some (.cells #[.int .i64 a1_0, .slice A1_1 l1_1.length c1_1, .string a1_2] 29 (0, 0))) ∧ (w'.heap[s_.1]? = some (.cells #[.bool false, .bool false, .bool false, .bool false, .bool false, .int .i64 0] 42 (0, 0))) ∧ (w'.heap[s_.2]? = some (.cells #[.bool false, .bool false, .bool false, .bool false, .bool false, .int .i64 0] 42 (0, 0))) ∧ (w.heap.size ≤ s_.1) ∧ (w.heap.size ≤ s_.1) ∧ (gb19 ≠ s_.1) ∧ (s_.1 ≠ gb19) ∧ (gb21 ≠ s_.1) ∧ (s_.1 ≠ gb21) ∧ (s_.2 ≠ s_.1) ∧ (s_.1 ≠ s_.2) ∧ (w.heap.size ≤ s_.2) ∧ (w.heap.size ≤ s_.2) ∧ (gb19 ≠ s_.2) ∧ (s_.2 ≠ gb19) ∧ (gb21 ≠ s_.2) ∧ (s_.2 ≠ gb21) ∧ (Below w.heap.size w w')) ?_ ?_
          rotate_left
          ·intro hJ6_7
           refine join_ (σ := Unit) 5 #[true, true, true, true, true, false, false, false, false, false] (fun s_ => [(27, .agg #[.bool t57, .bool t60, .bool t61, .bool t62, .bool t63, .int .i64 t65])]) (fun s_ w' => (w'.cell? ⟨gb19, 0, none⟩ = some (.int .i64 a0_0) ∧ w'.cell? ⟨gb19, 1, none⟩ = some (.string a0_1) ∧ w'.cell? ⟨gb19, 2, none⟩ = some (.slice A0_2 l0_2.length c0_2) ∧ w'.cell? ⟨gb19, 3, none⟩ = some (.string a0_3) ∧ w'.cell? ⟨gb21, 0, none⟩ = some (.int .i64 a1_0) ∧ w'.cell? ⟨gb21, 1, none⟩ = some (.slice A1_1 l1_1.length c1_1) ∧ w'.cell? ⟨gb21, 2, none⟩ = some (.string a1_2)) ∧ (w'.heap[gb19]? = some (.cells #[.int .i64 a0_0, .string a0_1, .slice A0_2 l0_2.length c0_2, .string a0_3] 50 (0, 0))) ∧ (w'.heap[gb21]? = some (.cells #[.int .i64 a1_0, .slice A1_1 l1_1.length c1_1, .string a1_2] 29 (0, 0))) ∧ (Below w.heap.size w w')) ?_ ?_
           rotate_left
           ·intro hJ2
            refine join_ (σ := Nat) 5 #[true, true, false, true, true, false, true, false, false, false] (fun s_ => [(5, .pointer (some ⟨s_, 0, none⟩))]) (fun s_ w' => (w'.cell? ⟨gb19, 0, none⟩ = some (.int .i64 a0_0) ∧ w'.cell? ⟨gb19, 1, none⟩ = some (.string a0_1) ∧ w'.cell? ⟨gb19, 2, none⟩ = some (.slice A0_2 l0_2.length c0_2) ∧ w'.cell? ⟨gb19, 3, none⟩ = some (.string a0_3) ∧ w'.cell? ⟨gb21, 0, none⟩ = some (.int .i64 a1_0) ∧ w'.cell? ⟨gb21, 1, none⟩ = some (.slice A1_1 l1_1.length c1_1) ∧ w'.cell? ⟨gb21, 2, none⟩ = some (.string a1_2)) ∧ (w'.heap[gb19]? = some (.cells #[.int .i64 a0_0, .string a0_1, .slice A0_2 l0_2.length c0_2, .string a0_3] 50 (0, 0))) ∧ (w'.heap[gb21]? = some (.cells #[.int .i64 a1_0, .slice A1_1 l1_1.length c1_1, .string a1_2] 29 (0, 0))) ∧ (w'.heap[s_]? = some (.cells #[.bool false, .bool false, .bool false, .bool false, .bool false, .int .i64 0] 42 (0, 0))) ∧ (w.heap.size ≤ s_) ∧ (w.heap.size ≤ s_) ∧ (gb19 ≠ s_) ∧ (s_ ≠ gb19) ∧ (gb21 ≠ s_) ∧ (s_ ≠ gb21) ∧ (Below w.heap.size w w')) ?_ ?_
            rotate_left
            ·intro hJ6
             refine join_ (σ := Nat) 5 #[true, true, false, true, true, false, false, true, false, false] (fun s_ => [(6, .pointer (some ⟨s_, 0, none⟩))]) (fun s_ w' => (w'.cell? ⟨gb19, 0, none⟩ = some (.int .i64 a0_0) ∧ w'.cell? ⟨gb19, 1, none⟩ = some (.string a0_1) ∧ w'.cell? ⟨gb19, 2, none⟩ = some (.slice A0_2 l0_2.length c0_2) ∧ w'.cell? ⟨gb19, 3, none⟩ = some (.string a0_3) ∧ w'.cell? ⟨gb21, 0, none⟩ = some (.int .i64 a1_0) ∧ w'.cell? ⟨gb21, 1, none⟩ = some (.slice A1_1 l1_1.length c1_1) ∧ w'.cell? ⟨gb21, 2, none⟩ = some (.string a1_2)) ∧ (w'.heap[gb19]? = some (.cells #[.int .i64 a0_0, .string a0_1, .slice A0_2 l0_2.length c0_2, .string a0_3] 50 (0, 0))) ∧ (w'.heap[gb21]? = some (.cells #[.int .i64 a1_0, .slice A1_1 l1_1.length c1_1, .string a1_2] 29 (0, 0))) ∧ (w'.heap[s_]? = some (.cells #[.bool false, .bool false, .bool false, .bool false, .bool false, .int .i64 0] 42 (0, 0))) ∧ (w.heap.size ≤ s_) ∧ (w.heap.size ≤ s_) ∧ (gb19 ≠ s_) ∧ (s_ ≠ gb19) ∧ (gb21 ≠ s_) ∧ (s_ ≠ gb21) ∧ (Below w.heap.size w w')) ?_ ?_
             rotate_left
             ·intro hJ7
              refine three_ (i := 2) (j := 6) (k := 7) (Ni := some 27) (Nj := some 5) (Nk := some 6) #[true, true, true, true, true, false, false, false, false, false] #[true, true, false, true, true, false, true, false, false, false] #[true, true, false, true, true, false, false, true, false, false] rfl rfl rfl rfl rfl rfl (three_of HT_.out (by kernel_rfl)) (by decide) (by decide) (by decide) (fun K hK => ?_) (fun K hK => ?_) (fun K hK => ?_)
              ·skip
               refine goes_ Tryz.func27 (by kernel_rfl) rfl #[.slice A0_2 l0_2.length c0_2] (by rfl) rfl rfl ma ?_
               refine (spec_CcOf.calls kj2 _ _ l0_2 t57 t60 t61 t62 t63 t65 _ (cb HR0_2) HC0_2.out A33.out).mono ?_
               rintro e w37 ⟨rfl, hb⟩
               refine ⟨_, rfl, ?_⟩
               replace BK19 := kb BK19 hb
               replace BK21 := kb BK21 hb
               replace HB := am (below_step bl hb)
               clear hb
               refine hK.out _ _ ⟨bc BK19, bc BK19, bc BK19, bc BK19, bc BK21, bc BK21, bc BK21⟩ (fun hHeld => ?_)
               clear hK K
               refine nm 27 ?_
               exact norm_ (by first | (simp only [putAll, Act.put, List.setIfInBounds_toArray, List.set_cons_zero, List.set_cons_succ]; done) | (simp only [putAll, Act.put, List.setIfInBounds_toArray, List.set_cons_zero, List.set_cons_succ]; rfl)) (hJ2 () _ ⟨hHeld, (bk BK19), (bk BK21), bl⟩)
              ·skip
               refine box_step ?hg (N := 5) ?hd (cs := #[.bool false, .bool false, .bool false, .bool false, .bool false, .int .i64 0]) (t := 42) ?hr ?_; (case hd => rfl); (case hg => rfl); (case hr => first | (go_simp; done) | (go_simp; rfl))
               intro gb23 hg w37 hbox hb
               have BK23 := am (hbox)
               have GW23 := am (sz hg : w.heap.size ≤ gb23)
               have GE23 := am (sz hg : w.heap.size ≤ gb23)
               replace HB := am (below_step bl hb)
               have NB19_23 := am (nl hg BK19 : gb19 ≠ gb23)
               have NB23_19 := am (ng hg BK19 : gb23 ≠ gb19)
               replace BK19 := kb BK19 hb
               have NB21_23 := am (nl hg BK21 : gb21 ≠ gb23)
               have NB23_21 := am (ng hg BK21 : gb23 ≠ gb21)
               replace BK21 := kb BK21 hb
               clear hb hbox hg
               refine hK.out _ _ ⟨bc BK19, bc BK19, bc BK19, bc BK19, bc BK21, bc BK21, bc BK21⟩ (fun hHeld => ?_)
               clear hK K
               refine nm 5 ?_
               exact norm_ (by first | (simp only [putAll, Act.put, List.setIfInBounds_toArray, List.set_cons_zero, List.set_cons_succ]; done) | (simp only [putAll, Act.put, List.setIfInBounds_toArray, List.set_cons_zero, List.set_cons_succ]; rfl)) (hJ6 (gb23) _ ⟨hHeld, (bk BK19), (bk BK21), (bk BK23), GW23.out, GE23.out, NB19_23.out, NB23_19.out, NB21_23.out, NB23_21.out, bl⟩)
              ·skip
               refine box_step ?hg (N := 6) ?hd (cs := #[.bool false, .bool false, .bool false, .bool false, .bool false, .int .i64 0]) (t := 42) ?hr ?_; (case hd => rfl); (case hg => rfl); (case hr => first | (go_simp; done) | (go_simp; rfl))
               intro gb25 hg w37 hbox hb
               have BK25 := am (hbox)
               have GW25 := am (sz hg : w.heap.size ≤ gb25)
               have GE25 := am (sz hg : w.heap.size ≤ gb25)
               replace HB := am (below_step bl hb)
               have NB19_25 := am (nl hg BK19 : gb19 ≠ gb25)
               have NB25_19 := am (ng hg BK19 : gb25 ≠ gb19)
               replace BK19 := kb BK19 hb
               have NB21_25 := am (nl hg BK21 : gb21 ≠ gb25)
               have NB25_21 := am (ng hg BK21 : gb25 ≠ gb21)
               replace BK21 := kb BK21 hb
               clear hb hbox hg
               refine hK.out _ _ ⟨bc BK19, bc BK19, bc BK19, bc BK19, bc BK21, bc BK21, bc BK21⟩ (fun hHeld => ?_)
               clear hK K
               refine nm 6 ?_
               exact norm_ (by first | (simp only [putAll, Act.put, List.setIfInBounds_toArray, List.set_cons_zero, List.set_cons_succ]; done) | (simp only [putAll, Act.put, List.setIfInBounds_toArray, List.set_cons_zero, List.set_cons_succ]; rfl)) (hJ7 (gb25) _ ⟨hHeld, (bk BK19), (bk BK21), (bk BK25), GW25.out, GE25.out, NB19_25.out, NB25_19.out, NB21_25.out, NB25_21.out, bl⟩)
             ·skip
              rintro gb25 w38 ⟨hS_, h0_, h1_, h2_, h3_, h4_, h5_, h6_, h7_, h8_, h9_⟩
              have n0_ : Aside0 (w38.heap[gb19]? = some (.cells #[.int .i64 a0_0, .string a0_1, .slice A0_2 l0_2.length c0_2, .string a0_3] 50 (0, 0))) := ⟨h0_⟩
              have n1_ : Aside0 (w38.heap[gb21]? = some (.cells #[.int .i64 a1_0, .slice A1_1 l1_1.length c1_1, .string a1_2] 29 (0, 0))) := ⟨h1_⟩
              have n2_ : Aside0 (w38.heap[gb25]? = some (.cells #[.bool false, .bool false, .bool false, .bool false, .bool false, .int .i64 0] 42 (0, 0))) := ⟨h2_⟩
              have n3_ : Aside0 (w.heap.size ≤ gb25) := ⟨h3_⟩
              have n4_ : Aside0 (w.heap.size ≤ gb25) := ⟨h4_⟩
              have n5_ : Aside0 (gb19 ≠ gb25) := ⟨h5_⟩
              have n6_ : Aside0 (gb25 ≠ gb19) := ⟨h6_⟩
              have n7_ : Aside0 (gb21 ≠ gb25) := ⟨h7_⟩
              have n8_ : Aside0 (gb25 ≠ gb21) := ⟨h8_⟩
              have n9_ : Aside0 (Below w.heap.size w w38) := ⟨h9_⟩
              clear BK19
              clear BK21
              clear HB
              clear h0_ h1_ h2_ h3_ h4_ h5_ h6_ h7_ h8_ h9_
              have BK19 := n0_
              have BK21 := n1_
              have BK25 := n2_
              have GW25 := n3_
              have GE25 := n4_
              have NB19_25 := n5_
              have NB25_19 := n6_
              have NB21_25 := n7_
              have NB25_21 := n8_
              have HB := n9_
              clear n0_ n1_ n2_ n3_ n4_ n5_ n6_ n7_ n8_ n9_
              have hHeld : w38.cell? ⟨gb19, 0, none⟩ = some (.int .i64 a0_0) ∧ w38.cell? ⟨gb19, 1, none⟩ = some (.string a0_1) ∧ w38.cell? ⟨gb19, 2, none⟩ = some (.slice A0_2 l0_2.length c0_2) ∧ w38.cell? ⟨gb19, 3, none⟩ = some (.string a0_3) ∧ w38.cell? ⟨gb21, 0, none⟩ = some (.int .i64 a1_0) ∧ w38.cell? ⟨gb21, 1, none⟩ = some (.slice A1_1 l1_1.length c1_1) ∧ w38.cell? ⟨gb21, 2, none⟩ = some (.string a1_2) := hS_
              refine norm_ (a' := ?_) ?_ ?_
              rotate_left
              ·simp only [putAll, Act.put, List.setIfInBounds_toArray, List.set_cons_zero, List.set_cons_succ]
               rfl
              refine two_ (i := 2) (j := 6) (Ni := some 27) (Nj := some 5) #[true, true, true, true, true, false, false, true, false, false] #[true, true, false, true, true, false, true, true, false, false] rfl rfl rfl rfl (two_of HT_.out (by kernel_rfl)) (by decide) (by decide) (fun K hK => ?_) (fun K hK => ?_)
              ·skip
               refine goes_ Tryz.func27 (by kernel_rfl) rfl #[.slice A0_2 l0_2.length c0_2] (by rfl) rfl rfl ma ?_
               refine (spec_CcOf.calls kj2 _ _ l0_2 t57 t60 t61 t62 t63 t65 _ (cb HR0_2) HC0_2.out A33.out).mono ?_
               rintro e w39 ⟨rfl, hb⟩
               refine ⟨_, rfl, ?_⟩
               replace BK19 := kb BK19 hb
               replace BK21 := kb BK21 hb
               replace BK25 := kb BK25 hb
               replace HB := am (below_step bl hb)
               clear hb
               refine hK.out _ _ ⟨bc BK19, bc BK19, bc BK19, bc BK19, bc BK21, bc BK21, bc BK21⟩ (fun hHeld => ?_)
               clear hK K
               refine nm 27 ?_
               exact norm_ (by first | (simp only [putAll, Act.put, List.setIfInBounds_toArray, List.set_cons_zero, List.set_cons_succ]; done) | (simp only [putAll, Act.put, List.setIfInBounds_toArray, List.set_cons_zero, List.set_cons_succ]; rfl)) (hJ2_7 (gb25) _ ⟨hHeld, (bk BK19), (bk BK21), (bk BK25), GW25.out, GE25.out, NB19_25.out, NB25_19.out, NB21_25.out, NB25_21.out, bl⟩)
              ·skip
               refine box_step ?hg (N := 5) ?hd (cs := #[.bool false, .bool false, .bool false, .bool false, .bool false, .int .i64 0]) (t := 42) ?hr ?_; (case hd => rfl); (case hg => rfl); (case hr => first | (go_simp; done) | (go_simp; rfl))
               intro gb23 hg w39 hbox hb
               have BK23 := am (hbox)
               have GW23 := am (sz hg : w.heap.size ≤ gb23)
               have GE23 := am (sz hg : w.heap.size ≤ gb23)
               replace HB := am (below_step bl hb)
               have NB19_23 := am (nl hg BK19 : gb19 ≠ gb23)
               have NB23_19 := am (ng hg BK19 : gb23 ≠ gb19)
               replace BK19 := kb BK19 hb
               have NB21_23 := am (nl hg BK21 : gb21 ≠ gb23)
               have NB23_21 := am (ng hg BK21 : gb23 ≠ gb21)
               replace BK21 := kb BK21 hb
               have NB25_23 := am (nl hg BK25 : gb25 ≠ gb23)
               have NB23_25 := am (ng hg BK25 : gb23 ≠ gb25)
               replace BK25 := kb BK25 hb
               clear hb hbox hg
               refine hK.out _ _ ⟨bc BK19, bc BK19, bc BK19, bc BK19, bc BK21, bc BK21, bc BK21⟩ (fun hHeld => ?_)
               clear hK K
               refine nm 5 ?_
               exact norm_ (by first | (simp only [putAll, Act.put, List.setIfInBounds_toArray, List.set_cons_zero, List.set_cons_succ]; done) | (simp only [putAll, Act.put, List.setIfInBounds_toArray, List.set_cons_zero, List.set_cons_succ]; rfl)) (hJ6_7 (gb23, gb25) _ ⟨hHeld, (bk BK19), (bk BK21), (bk BK23), (bk BK25), GW23.out, GE23.out, NB19_23.out, NB23_19.out, NB21_23.out, NB23_21.out, NB25_23.out, NB23_25.out, GW25.out, GE25.out, NB19_25.out, NB25_19.out, NB21_25.out, NB25_21.out, bl⟩)
            ·skip
             rintro gb23 w38 ⟨hS_, h0_, h1_, h2_, h3_, h4_, h5_, h6_, h7_, h8_, h9_⟩
             have n0_ : Aside0 (w38.heap[gb19]? = some (.cells #[.int .i64 a0_0, .string a0_1, .slice A0_2 l0_2.length c0_2, .string a0_3] 50 (0, 0))) := ⟨h0_⟩
             have n1_ : Aside0 (w38.heap[gb21]? = some (.cells #[.int .i64 a1_0, .slice A1_1 l1_1.length c1_1, .string a1_2] 29 (0, 0))) := ⟨h1_⟩
             have n2_ : Aside0 (w38.heap[gb23]? = some (.cells #[.bool false, .bool false, .bool false, .bool false, .bool false, .int .i64 0] 42 (0, 0))) := ⟨h2_⟩
             have n3_ : Aside0 (w.heap.size ≤ gb23) := ⟨h3_⟩
             have n4_ : Aside0 (w.heap.size ≤ gb23) := ⟨h4_⟩
             have n5_ : Aside0 (gb19 ≠ gb23) := ⟨h5_⟩
             have n6_ : Aside0 (gb23 ≠ gb19) := ⟨h6_⟩
             have n7_ : Aside0 (gb21 ≠ gb23) := ⟨h7_⟩
             have n8_ : Aside0 (gb23 ≠ gb21) := ⟨h8_⟩
             have n9_ : Aside0 (Below w.heap.size w w38) := ⟨h9_⟩
             clear BK19
             clear BK21
             clear HB
             clear h0_ h1_ h2_ h3_ h4_ h5_ h6_ h7_ h8_ h9_
             have BK19 := n0_
             have BK21 := n1_
             have BK23 := n2_
             have GW23 := n3_
             have GE23 := n4_
             have NB19_23 := n5_
             have NB23_19 := n6_
             have NB21_23 := n7_
             have NB23_21 := n8_
             have HB := n9_
             clear n0_ n1_ n2_ n3_ n4_ n5_ n6_ n7_ n8_ n9_
             have hHeld : w38.cell? ⟨gb19, 0, none⟩ = some (.int .i64 a0_0) ∧ w38.cell? ⟨gb19, 1, none⟩ = some (.string a0_1) ∧ w38.cell? ⟨gb19, 2, none⟩ = some (.slice A0_2 l0_2.length c0_2) ∧ w38.cell? ⟨gb19, 3, none⟩ = some (.string a0_3) ∧ w38.cell? ⟨gb21, 0, none⟩ = some (.int .i64 a1_0) ∧ w38.cell? ⟨gb21, 1, none⟩ = some (.slice A1_1 l1_1.length c1_1) ∧ w38.cell? ⟨gb21, 2, none⟩ = some (.string a1_2) := hS_
             refine norm_ (a' := ?_) ?_ ?_
             rotate_left
             ·simp only [putAll, Act.put, List.setIfInBounds_toArray, List.set_cons_zero, List.set_cons_succ]
              rfl
             refine two_ (i := 2) (j := 7) (Ni := some 27) (Nj := some 6) #[true, true, true, true, true, false, true, false, false, false] #[true, true, false, true, true, false, true, true, false, false] rfl rfl rfl rfl (two_of HT_.out (by kernel_rfl)) (by decide) (by decide) (fun K hK => ?_) (fun K hK => ?_)
             ·skip
              refine goes_ Tryz.func27 (by kernel_rfl) rfl #[.slice A0_2 l0_2.length c0_2] (by rfl) rfl rfl ma ?_
              refine (spec_CcOf.calls kj2 _ _ l0_2 t57 t60 t61 t62 t63 t65 _ (cb HR0_2) HC0_2.out A33.out).mono ?_
              rintro e w39 ⟨rfl, hb⟩
              refine ⟨_, rfl, ?_⟩
              replace BK19 := kb BK19 hb
              replace BK21 := kb BK21 hb
              replace BK23 := kb BK23 hb
              replace HB := am (below_step bl hb)
              clear hb
              refine hK.out _ _ ⟨bc BK19, bc BK19, bc BK19, bc BK19, bc BK21, bc BK21, bc BK21⟩ (fun hHeld => ?_)
              clear hK K
              refine nm 27 ?_
              exact norm_ (by first | (simp only [putAll, Act.put, List.setIfInBounds_toArray, List.set_cons_zero, List.set_cons_succ]; done) | (simp only [putAll, Act.put, List.setIfInBounds_toArray, List.set_cons_zero, List.set_cons_succ]; rfl)) (hJ2_6 (gb23) _ ⟨hHeld, (bk BK19), (bk BK21), (bk BK23), GW23.out, GE23.out, NB19_23.out, NB23_19.out, NB21_23.out, NB23_21.out, bl⟩)
             ·skip
              refine box_step ?hg (N := 6) ?hd (cs := #[.bool false, .bool false, .bool false, .bool false, .bool false, .int .i64 0]) (t := 42) ?hr ?_; (case hd => rfl); (case hg => rfl); (case hr => first | (go_simp; done) | (go_simp; rfl))
              intro gb25 hg w39 hbox hb
              have BK25 := am (hbox)
              have GW25 := am (sz hg : w.heap.size ≤ gb25)
              have GE25 := am (sz hg : w.heap.size ≤ gb25)
              replace HB := am (below_step bl hb)
              have NB19_25 := am (nl hg BK19 : gb19 ≠ gb25)
              have NB25_19 := am (ng hg BK19 : gb25 ≠ gb19)
              replace BK19 := kb BK19 hb
              have NB21_25 := am (nl hg BK21 : gb21 ≠ gb25)
              have NB25_21 := am (ng hg BK21 : gb25 ≠ gb21)
              replace BK21 := kb BK21 hb
              have NB23_25 := am (nl hg BK23 : gb23 ≠ gb25)
              have NB25_23 := am (ng hg BK23 : gb25 ≠ gb23)
              replace BK23 := kb BK23 hb
              clear hb hbox hg
              refine hK.out _ _ ⟨bc BK19, bc BK19, bc BK19, bc BK19, bc BK21, bc BK21, bc BK21⟩ (fun hHeld => ?_)
              clear hK K
              refine nm 6 ?_
              exact norm_ (by first | (simp only [putAll, Act.put, List.setIfInBounds_toArray, List.set_cons_zero, List.set_cons_succ]; done) | (simp only [putAll, Act.put, List.setIfInBounds_toArray, List.set_cons_zero, List.set_cons_succ]; rfl)) (hJ6_7 (gb23, gb25) _ ⟨hHeld, (bk BK19), (bk BK21), (bk BK23), (bk BK25), GW23.out, GE23.out, NB19_23.out, NB23_19.out, NB21_23.out, NB23_21.out, NB25_23.out, NB23_25.out, GW25.out, GE25.out, NB19_25.out, NB25_19.out, NB21_25.out, NB25_21.out, bl⟩)
           ·skip
            rintro _ w38 ⟨hS_, h0_, h1_, h2_⟩
            have n0_ : Aside0 (w38.heap[gb19]? = some (.cells #[.int .i64 a0_0, .string a0_1, .slice A0_2 l0_2.length c0_2, .string a0_3] 50 (0, 0))) := ⟨h0_⟩
            have n1_ : Aside0 (w38.heap[gb21]? = some (.cells #[.int .i64 a1_0, .slice A1_1 l1_1.length c1_1, .string a1_2] 29 (0, 0))) := ⟨h1_⟩
            have n2_ : Aside0 (Below w.heap.size w w38) := ⟨h2_⟩
            clear BK19
            clear BK21
            clear HB
            clear h0_ h1_ h2_
            have BK19 := n0_
            have BK21 := n1_
            have HB := n2_
            clear n0_ n1_ n2_
            have hHeld : w38.cell? ⟨gb19, 0, none⟩ = some (.int .i64 a0_0) ∧ w38.cell? ⟨gb19, 1, none⟩ = some (.string a0_1) ∧ w38.cell? ⟨gb19, 2, none⟩ = some (.slice A0_2 l0_2.length c0_2) ∧ w38.cell? ⟨gb19, 3, none⟩ = some (.string a0_3) ∧ w38.cell? ⟨gb21, 0, none⟩ = some (.int .i64 a1_0) ∧ w38.cell? ⟨gb21, 1, none⟩ = some (.slice A1_1 l1_1.length c1_1) ∧ w38.cell? ⟨gb21, 2, none⟩ = some (.string a1_2) := hS_
            refine norm_ (a' := ?_) ?_ ?_
            rotate_left
            ·simp only [putAll, Act.put, List.setIfInBounds_toArray, List.set_cons_zero, List.set_cons_succ]
             rfl
            refine three_ (i := 5) (j := 6) (k := 7) (Ni := some 30) (Nj := some 5) (Nk := some 6) #[true, true, true, true, true, true, false, false, false, false] #[true, true, true, true, true, false, true, false, false, false] #[true, true, true, true, true, false, false, true, false, false] rfl rfl rfl rfl rfl rfl (three_of HT_.out (by kernel_rfl)) (by decide) (by decide) (by decide) (fun K hK => ?_) (fun K hK => ?_) (fun K hK => ?_)
            ·skip
             refine goes_ Tryz.func27 (by kernel_rfl) rfl #[.slice A1_1 l1_1.length c1_1] (by rfl) rfl rfl ma ?_
             refine (spec_CcOf.calls kj2 _ _ l1_1 t59 t66 t67 t68 t69 t70 _ (cb HR1_1) HC1_1.out A34.out).mono ?_
             rintro e w39 ⟨rfl, hb⟩
             refine ⟨_, rfl, ?_⟩
             replace BK19 := kb BK19 hb
             replace BK21 := kb BK21 hb
             replace HB := am (below_step bl hb)
             clear hb
             refine hK.out _ _ ⟨bc BK19, bc BK19, bc BK19, bc BK19, bc BK21, bc BK21, bc BK21⟩ (fun hHeld => ?_)
             clear hK K
             refine nm 30 ?_
             exact norm_ (by first | (simp only [putAll, Act.put, List.setIfInBounds_toArray, List.set_cons_zero, List.set_cons_succ]; done) | (simp only [putAll, Act.put, List.setIfInBounds_toArray, List.set_cons_zero, List.set_cons_succ]; rfl)) (hJ2_5 () _ ⟨hHeld, (bk BK19), (bk BK21), bl⟩)
            ·skip
             refine box_step ?hg (N := 5) ?hd (cs := #[.bool false, .bool false, .bool false, .bool false, .bool false, .int .i64 0]) (t := 42) ?hr ?_; (case hd => rfl); (case hg => rfl); (case hr => first | (go_simp; done) | (go_simp; rfl))
             intro gb23 hg w39 hbox hb
             have BK23 := am (hbox)
             have GW23 := am (sz hg : w.heap.size ≤ gb23)
             have GE23 := am (sz hg : w.heap.size ≤ gb23)
             replace HB := am (below_step bl hb)
             have NB19_23 := am (nl hg BK19 : gb19 ≠ gb23)
             have NB23_19 := am (ng hg BK19 : gb23 ≠ gb19)
             replace BK19 := kb BK19 hb
             have NB21_23 := am (nl hg BK21 : gb21 ≠ gb23)
             have NB23_21 := am (ng hg BK21 : gb23 ≠ gb21)
             replace BK21 := kb BK21 hb
             clear hb hbox hg
             refine hK.out _ _ ⟨bc BK19, bc BK19, bc BK19, bc BK19, bc BK21, bc BK21, bc BK21⟩ (fun hHeld => ?_)
             clear hK K
             refine nm 5 ?_
             exact norm_ (by first | (simp only [putAll, Act.put, List.setIfInBounds_toArray, List.set_cons_zero, List.set_cons_succ]; done) | (simp only [putAll, Act.put, List.setIfInBounds_toArray, List.set_cons_zero, List.set_cons_succ]; rfl)) (hJ2_6 (gb23) _ ⟨hHeld, (bk BK19), (bk BK21), (bk BK23), GW23.out, GE23.out, NB19_23.out, NB23_19.out, NB21_23.out, NB23_21.out, bl⟩)
            ·skip
             refine box_step ?hg (N := 6) ?hd (cs := #[.bool false, .bool false, .bool false, .bool false, .bool false, .int .i64 0]) (t := 42) ?hr ?_; (case hd => rfl); (case hg => rfl); (case hr => first | (go_simp; done) | (go_simp; rfl))
             intro gb25 hg w39 hbox hb
             have BK25 := am (hbox)
             have GW25 := am (sz hg : w.heap.size ≤ gb25)
             have GE25 := am (sz hg : w.heap.size ≤ gb25)
             replace HB := am (below_step bl hb)
             have NB19_25 := am (nl hg BK19 : gb19 ≠ gb25)
             have NB25_19 := am (ng hg BK19 : gb25 ≠ gb19)
             replace BK19 := kb BK19 hb
             have NB21_25 := am (nl hg BK21 : gb21 ≠ gb25)
             have NB25_21 := am (ng hg BK21 : gb25 ≠ gb21)
             replace BK21 := kb BK21 hb
             clear hb hbox hg
             refine hK.out _ _ ⟨bc BK19, bc BK19, bc BK19, bc BK19, bc BK21, bc BK21, bc BK21⟩ (fun hHeld => ?_)
             clear hK K
             refine nm 6 ?_
             exact norm_ (by first | (simp only [putAll, Act.put, List.setIfInBounds_toArray, List.set_cons_zero, List.set_cons_succ]; done) | (simp only [putAll, Act.put, List.setIfInBounds_toArray, List.set_cons_zero, List.set_cons_succ]; rfl)) (hJ2_7 (gb25) _ ⟨hHeld, (bk BK19), (bk BK21), (bk BK25), GW25.out, GE25.out, NB19_25.out, NB25_19.out, NB21_25.out, NB25_21.out, bl⟩)
          ·skip
           rintro ⟨gb23, gb25⟩ w39 ⟨hS_, h0_, h1_, h2_, h3_, h4_, h5_, h6_, h7_, h8_, h9_, h10_, h11_, h12_, h13_, h14_, h15_, h16_, h17_, h18_⟩
           have n0_ : Aside0 (w39.heap[gb19]? = some (.cells #[.int .i64 a0_0, .string a0_1, .slice A0_2 l0_2.length c0_2, .string a0_3] 50 (0, 0))) := ⟨h0_⟩
           have n1_ : Aside0 (w39.heap[gb21]? = some (.cells #[.int .i64 a1_0, .slice A1_1 l1_1.length c1_1, .string a1_2] 29 (0, 0))) := ⟨h1_⟩
           have n2_ : Aside0 (w39.heap[gb23]? = some (.cells #[.bool false, .bool false, .bool false, .bool false, .bool false, .int .i64 0] 42 (0, 0))) := ⟨h2_⟩
           have n3_ : Aside0 (w39.heap[gb25]? = some (.cells #[.bool false, .bool false, .bool false, .bool false, .bool false, .int .i64 0] 42 (0, 0))) := ⟨h3_⟩
           have n4_ : Aside0 (w.heap.size ≤ gb23) := ⟨h4_⟩
           have n5_ : Aside0 (w.heap.size ≤ gb23) := ⟨h5_⟩
           have n6_ : Aside0 (gb19 ≠ gb23) := ⟨h6_⟩
           have n7_ : Aside0 (gb23 ≠ gb19) := ⟨h7_⟩
           have n8_ : Aside0 (gb21 ≠ gb23) := ⟨h8_⟩
           have n9_ : Aside0 (gb23 ≠ gb21) := ⟨h9_⟩
           have n10_ : Aside0 (gb25 ≠ gb23) := ⟨h10_⟩
           have n11_ : Aside0 (gb23 ≠ gb25) := ⟨h11_⟩
           have n12_ : Aside0 (w.heap.size ≤ gb25) := ⟨h12_⟩
           have n13_ : Aside0 (w.heap.size ≤ gb25) := ⟨h13_⟩
           have n14_ : Aside0 (gb19 ≠ gb25) := ⟨h14_⟩
           have n15_ : Aside0 (gb25 ≠ gb19) := ⟨h15_⟩
           have n16_ : Aside0 (gb21 ≠ gb25) := ⟨h16_⟩
           have n17_ : Aside0 (gb25 ≠ gb21) := ⟨h17_⟩
           have n18_ : Aside0 (Below w.heap.size w w39) := ⟨h18_⟩
           clear BK19
           clear BK21
           clear HB
           clear h0_ h1_ h2_ h3_ h4_ h5_ h6_ h7_ h8_ h9_ h10_ h11_ h12_ h13_ h14_ h15_ h16_ h17_ h18_
           have BK19 := n0_
           have BK21 := n1_
           have BK23 := n2_
           have BK25 := n3_
           have GW23 := n4_
           have GE23 := n5_
           have NB19_23 := n6_
           have NB23_19 := n7_
           have NB21_23 := n8_
           have NB23_21 := n9_
           have NB25_23 := n10_
           have NB23_25 := n11_
           have GW25 := n12_
           have GE25 := n13_
           have NB19_25 := n14_
           have NB25_19 := n15_
           have NB21_25 := n16_
           have NB25_21 := n17_
           have HB := n18_
           clear n0_ n1_ n2_ n3_ n4_ n5_ n6_ n7_ n8_ n9_ n10_ n11_ n12_ n13_ n14_ n15_ n16_ n17_ n18_
           have hHeld : w39.cell? ⟨gb19, 0, none⟩ = some (.int .i64 a0_0) ∧ w39.cell? ⟨gb19, 1, none⟩ = some (.string a0_1) ∧ w39.cell? ⟨gb19, 2, none⟩ = some (.slice A0_2 l0_2.length c0_2) ∧ w39.cell? ⟨gb19, 3, none⟩ = some (.string a0_3) ∧ w39.cell? ⟨gb21, 0, none⟩ = some (.int .i64 a1_0) ∧ w39.cell? ⟨gb21, 1, none⟩ = some (.slice A1_1 l1_1.length c1_1) ∧ w39.cell? ⟨gb21, 2, none⟩ = some (.string a1_2) := hS_
           refine norm_ (a' := ?_) ?_ ?_
           rotate_left
           ·simp only [putAll, Act.put, List.setIfInBounds_toArray, List.set_cons_zero, List.set_cons_succ]
            rfl
           refine og 2 27 [5, 1, 2, 2] Tryz.func27 #[.slice A0_2 l0_2.length c0_2] (fun K hK => ?_)
           refine (spec_CcOf.calls kj2 _ _ l0_2 t57 t60 t61 t62 t63 t65 _ (cb HR0_2) HC0_2.out A33.out).mono ?_
           rintro e w40 ⟨rfl, hb⟩
           refine ⟨_, rfl, ?_⟩
           replace BK19 := kb BK19 hb
           replace BK21 := kb BK21 hb
           replace BK23 := kb BK23 hb
           replace BK25 := kb BK25 hb
           replace HB := am (below_step bl hb)
           clear hb
           refine hK.out _ _ ⟨bc BK19, bc BK19, bc BK19, bc BK19, bc BK21, bc BK21, bc BK21⟩ (fun hHeld => ?_)
           clear hK K
           refine nm 27 ?_
           exact norm_ (by first | (simp only [putAll, Act.put, List.setIfInBounds_toArray, List.set_cons_zero, List.set_cons_succ]; done) | (simp only [putAll, Act.put, List.setIfInBounds_toArray, List.set_cons_zero, List.set_cons_succ]; rfl)) (hJ2_6_7 (gb23, gb25) _ ⟨hHeld, (bk BK19), (bk BK21), (bk BK23), (bk BK25), GW23.out, GE23.out, NB19_23.out, NB23_19.out, NB21_23.out, NB23_21.out, NB25_23.out, NB23_25.out, GW25.out, GE25.out, NB19_25.out, NB25_19.out, NB21_25.out, NB25_21.out, bl⟩)
         ·skip
          rintro gb25 w39 ⟨hS_, h0_, h1_, h2_, h3_, h4_, h5_, h6_, h7_, h8_, h9_⟩
          have n0_ : Aside0 (w39.heap[gb19]? = some (.cells #[.int .i64 a0_0, .string a0_1, .slice A0_2 l0_2.length c0_2, .string a0_3] 50 (0, 0))) := ⟨h0_⟩
          have n1_ : Aside0 (w39.heap[gb21]? = some (.cells #[.int .i64 a1_0, .slice A1_1 l1_1.length c1_1, .string a1_2] 29 (0, 0))) := ⟨h1_⟩
          have n2_ : Aside0 (w39.heap[gb25]? = some (.cells #[.bool false, .bool false, .bool false, .bool false, .bool false, .int .i64 0] 42 (0, 0))) := ⟨h2_⟩
          have n3_ : Aside0 (w.heap.size ≤ gb25) := ⟨h3_⟩
          have n4_ : Aside0 (w.heap.size ≤ gb25) := ⟨h4_⟩
          have n5_ : Aside0 (gb19 ≠ gb25) := ⟨h5_⟩
          have n6_ : Aside0 (gb25 ≠ gb19) := ⟨h6_⟩
          have n7_ : Aside0 (gb21 ≠ gb25) := ⟨h7_⟩
          have n8_ : Aside0 (gb25 ≠ gb21) := ⟨h8_⟩
          have n9_ : Aside0 (Below w.heap.size w w39) := ⟨h9_⟩
          clear BK19
          clear BK21
          clear HB
          clear h0_ h1_ h2_ h3_ h4_ h5_ h6_ h7_ h8_ h9_
          have BK19 := n0_
          have BK21 := n1_
          have BK25 := n2_
          have GW25 := n3_
          have GE25 := n4_
          have NB19_25 := n5_
          have NB25_19 := n6_
          have NB21_25 := n7_
          have NB25_21 := n8_
          have HB := n9_
          clear n0_ n1_ n2_ n3_ n4_ n5_ n6_ n7_ n8_ n9_
          have hHeld : w39.cell? ⟨gb19, 0, none⟩ = some (.int .i64 a0_0) ∧ w39.cell? ⟨gb19, 1, none⟩ = some (.string a0_1) ∧ w39.cell? ⟨gb19, 2, none⟩ = some (.slice A0_2 l0_2.length c0_2) ∧ w39.cell? ⟨gb19, 3, none⟩ = some (.string a0_3) ∧ w39.cell? ⟨gb21, 0, none⟩ = some (.int .i64 a1_0) ∧ w39.cell? ⟨gb21, 1, none⟩ = some (.slice A1_1 l1_1.length c1_1) ∧ w39.cell? ⟨gb21, 2, none⟩ = some (.string a1_2) := hS_
          refine norm_ (a' := ?_) ?_ ?_
          rotate_left
          ·simp only [putAll, Act.put, List.setIfInBounds_toArray, List.set_cons_zero, List.set_cons_succ]
           rfl
          refine two_ (i := 5) (j := 6) (Ni := some 30) (Nj := some 5) #[true, true, true, true, true, true, false, true, false, false] #[true, true, true, true, true, false, true, true, false, false] rfl rfl rfl rfl (two_of HT_.out (by kernel_rfl)) (by decide) (by decide) (fun K hK => ?_) (fun K hK => ?_)
          ·skip
           refine goes_ Tryz.func27 (by kernel_rfl) rfl #[.slice A1_1 l1_1.length c1_1] (by rfl) rfl rfl ma ?_
           refine (spec_CcOf.calls kj2 _ _ l1_1 t59 t66 t67 t68 t69 t70 _ (cb HR1_1) HC1_1.out A34.out).mono ?_
           rintro e w40 ⟨rfl, hb⟩
           refine ⟨_, rfl, ?_⟩
           replace BK19 := kb BK19 hb
           replace BK21 := kb BK21 hb
           replace BK25 := kb BK25 hb
           replace HB := am (below_step bl hb)
           clear hb
           refine hK.out _ _ ⟨bc BK19, bc BK19, bc BK19, bc BK19, bc BK21, bc BK21, bc BK21⟩ (fun hHeld => ?_)
           clear hK K
           refine nm 30 ?_
           exact norm_ (by first | (simp only [putAll, Act.put, List.setIfInBounds_toArray, List.set_cons_zero, List.set_cons_succ]; done) | (simp only [putAll, Act.put, List.setIfInBounds_toArray, List.set_cons_zero, List.set_cons_succ]; rfl)) (hJ2_5_7 (gb25) _ ⟨hHeld, (bk BK19), (bk BK21), (bk BK25), GW25.out, GE25.out, NB19_25.out, NB25_19.out, NB21_25.out, NB25_21.out, bl⟩)
          ·skip
           refine box_step ?hg (N := 5) ?hd (cs := #[.bool false, .bool false, .bool false, .bool false, .bool false, .int .i64 0]) (t := 42) ?hr ?_; (case hd => rfl); (case hg => rfl); (case hr => first | (go_simp; done) | (go_simp; rfl))
           intro gb23 hg w40 hbox hb
           have BK23 := am (hbox)
           have GW23 := am (sz hg : w.heap.size ≤ gb23)
           have GE23 := am (sz hg : w.heap.size ≤ gb23)
           replace HB := am (below_step bl hb)
           have NB19_23 := am (nl hg BK19 : gb19 ≠ gb23)
           have NB23_19 := am (ng hg BK19 : gb23 ≠ gb19)
           replace BK19 := kb BK19 hb
           have NB21_23 := am (nl hg BK21 : gb21 ≠ gb23)
           have NB23_21 := am (ng hg BK21 : gb23 ≠ gb21)
           replace BK21 := kb BK21 hb
           have NB25_23 := am (nl hg BK25 : gb25 ≠ gb23)
           have NB23_25 := am (ng hg BK25 : gb23 ≠ gb25)
           replace BK25 := kb BK25 hb
           clear hb hbox hg
           refine hK.out _ _ ⟨bc BK19, bc BK19, bc BK19, bc BK19, bc BK21, bc BK21, bc BK21⟩ (fun hHeld => ?_)
           clear hK K
           refine nm 5 ?_
           exact norm_ (by first | (simp only [putAll, Act.put, List.setIfInBounds_toArray, List.set_cons_zero, List.set_cons_succ]; done) | (simp only [putAll, Act.put, List.setIfInBounds_toArray, List.set_cons_zero, List.set_cons_succ]; rfl)) (hJ2_6_7 (gb23, gb25) _ ⟨hHeld, (bk BK19), (bk BK21), (bk BK23), (bk BK25), GW23.out, GE23.out, NB19_23.out, NB23_19.out, NB21_23.out, NB23_21.out, NB25_23.out, NB23_25.out, GW25.out, GE25.out, NB19_25.out, NB25_19.out, NB21_25.out, NB25_21.out, bl⟩)
        ·skip
         rintro gb23 w39 ⟨hS_, h0_, h1_, h2_, h3_, h4_, h5_, h6_, h7_, h8_, h9_⟩
         have n0_ : Aside0 (w39.heap[gb19]? = some (.cells #[.int .i64 a0_0, .string a0_1, .slice A0_2 l0_2.length c0_2, .string a0_3] 50 (0, 0))) := ⟨h0_⟩
         have n1_ : Aside0 (w39.heap[gb21]? = some (.cells #[.int .i64 a1_0, .slice A1_1 l1_1.length c1_1, .string a1_2] 29 (0, 0))) := ⟨h1_⟩
         have n2_ : Aside0 (w39.heap[gb23]? = some (.cells #[.bool false, .bool false, .bool false, .bool false, .bool false, .int .i64 0] 42 (0, 0))) := ⟨h2_⟩
         have n3_ : Aside0 (w.heap.size ≤ gb23) := ⟨h3_⟩
         have n4_ : Aside0 (w.heap.size ≤ gb23) := ⟨h4_⟩
         have n5_ : Aside0 (gb19 ≠ gb23) := ⟨h5_⟩
         have n6_ : Aside0 (gb23 ≠ gb19) := ⟨h6_⟩
         have n7_ : Aside0 (gb21 ≠ gb23) := ⟨h7_⟩
         have n8_ : Aside0 (gb23 ≠ gb21) := ⟨h8_⟩
         have n9_ : Aside0 (Below w.heap.size w w39) := ⟨h9_⟩
         clear BK19
         clear BK21
         clear HB
         clear h0_ h1_ h2_ h3_ h4_ h5_ h6_ h7_ h8_ h9_
         have BK19 := n0_
         have BK21 := n1_
         have BK23 := n2_
         have GW23 := n3_
         have GE23 := n4_
         have NB19_23 := n5_
         have NB23_19 := n6_
         have NB21_23 := n7_
         have NB23_21 := n8_
         have HB := n9_
         clear n0_ n1_ n2_ n3_ n4_ n5_ n6_ n7_ n8_ n9_
         have hHeld : w39.cell? ⟨gb19, 0, none⟩ = some (.int .i64 a0_0) ∧ w39.cell? ⟨gb19, 1, none⟩ = some (.string a0_1) ∧ w39.cell? ⟨gb19, 2, none⟩ = some (.slice A0_2 l0_2.length c0_2) ∧ w39.cell? ⟨gb19, 3, none⟩ = some (.string a0_3) ∧ w39.cell? ⟨gb21, 0, none⟩ = some (.int .i64 a1_0) ∧ w39.cell? ⟨gb21, 1, none⟩ = some (.slice A1_1 l1_1.length c1_1) ∧ w39.cell? ⟨gb21, 2, none⟩ = some (.string a1_2) := hS_
         refine norm_ (a' := ?_) ?_ ?_
         rotate_left
         ·simp only [putAll, Act.put, List.setIfInBounds_toArray, List.set_cons_zero, List.set_cons_succ]
          rfl
         refine two_ (i := 5) (j := 7) (Ni := some 30) (Nj := some 6) #[true, true, true, true, true, true, true, false, false, false] #[true, true, true, true, true, false, true, true, false, false] rfl rfl rfl rfl (two_of HT_.out (by kernel_rfl)) (by decide) (by decide) (fun K hK => ?_) (fun K hK => ?_)
         ·skip
          refine goes_ Tryz.func27 (by kernel_rfl) rfl #[.slice A1_1 l1_1.length c1_1] (by rfl) rfl rfl ma ?_
          refine (spec_CcOf.calls kj2 _ _ l1_1 t59 t66 t67 t68 t69 t70 _ (cb HR1_1) HC1_1.out A34.out).mono ?_
          rintro e w40 ⟨rfl, hb⟩
          refine ⟨_, rfl, ?_⟩
          replace BK19 := kb BK19 hb
          replace BK21 := kb BK21 hb
          replace BK23 := kb BK23 hb
          replace HB := am (below_step bl hb)
          clear hb
          refine hK.out _ _ ⟨bc BK19, bc BK19, bc BK19, bc BK19, bc BK21, bc BK21, bc BK21⟩ (fun hHeld => ?_)
          clear hK K
          refine nm 30 ?_
          exact norm_ (by first | (simp only [putAll, Act.put, List.setIfInBounds_toArray, List.set_cons_zero, List.set_cons_succ]; done) | (simp only [putAll, Act.put, List.setIfInBounds_toArray, List.set_cons_zero, List.set_cons_succ]; rfl)) (hJ2_5_6 (gb23) _ ⟨hHeld, (bk BK19), (bk BK21), (bk BK23), GW23.out, GE23.out, NB19_23.out, NB23_19.out, NB21_23.out, NB23_21.out, bl⟩)
         ·skip
          refine box_step ?hg (N := 6) ?hd (cs := #[.bool false, .bool false, .bool false, .bool false, .bool false, .int .i64 0]) (t := 42) ?hr ?_; (case hd => rfl); (case hg => rfl); (case hr => first | (go_simp; done) | (go_simp; rfl))
          intro gb25 hg w40 hbox hb
          have BK25 := am (hbox)
          have GW25 := am (sz hg : w.heap.size ≤ gb25)
          have GE25 := am (sz hg : w.heap.size ≤ gb25)
          replace HB := am (below_step bl hb)
          have NB19_25 := am (nl hg BK19 : gb19 ≠ gb25)
          have NB25_19 := am (ng hg BK19 : gb25 ≠ gb19)
          replace BK19 := kb BK19 hb
          have NB21_25 := am (nl hg BK21 : gb21 ≠ gb25)
          have NB25_21 := am (ng hg BK21 : gb25 ≠ gb21)
          replace BK21 := kb BK21 hb
          have NB23_25 := am (nl hg BK23 : gb23 ≠ gb25)
          have NB25_23 := am (ng hg BK23 : gb25 ≠ gb23)
          replace BK23 := kb BK23 hb
          clear hb hbox hg
          refine hK.out _ _ ⟨bc BK19, bc BK19, bc BK19, bc BK19, bc BK21, bc BK21, bc BK21⟩ (fun hHeld => ?_)
          clear hK K
          refine nm 6 ?_
          exact norm_ (by first | (simp only [putAll, Act.put, List.setIfInBounds_toArray, List.set_cons_zero, List.set_cons_succ]; done) | (simp only [putAll, Act.put, List.setIfInBounds_toArray, List.set_cons_zero, List.set_cons_succ]; rfl)) (hJ2_6_7 (gb23, gb25) _ ⟨hHeld, (bk BK19), (bk BK21), (bk BK23), (bk BK25), GW23.out, GE23.out, NB19_23.out, NB23_19.out, NB21_23.out, NB23_21.out, NB25_23.out, NB23_25.out, GW25.out, GE25.out, NB19_25.out, NB25_19.out, NB21_25.out, NB25_21.out, bl⟩)
       ·skip
        rintro _ w39 ⟨hS_, h0_, h1_, h2_⟩
        have n0_ : Aside0 (w39.heap[gb19]? = some (.cells #[.int .i64 a0_0, .string a0_1, .slice A0_2 l0_2.length c0_2, .string a0_3] 50 (0, 0))) := ⟨h0_⟩
        have n1_ : Aside0 (w39.heap[gb21]? = some (.cells #[.int .i64 a1_0, .slice A1_1 l1_1.length c1_1, .string a1_2] 29 (0, 0))) := ⟨h1_⟩
        have n2_ : Aside0 (Below w.heap.size w w39) := ⟨h2_⟩
        clear BK19
        clear BK21
        clear HB
        clear h0_ h1_ h2_
        have BK19 := n0_
        have BK21 := n1_
        have HB := n2_
        clear n0_ n1_ n2_
        have hHeld : w39.cell? ⟨gb19, 0, none⟩ = some (.int .i64 a0_0) ∧ w39.cell? ⟨gb19, 1, none⟩ = some (.string a0_1) ∧ w39.cell? ⟨gb19, 2, none⟩ = some (.slice A0_2 l0_2.length c0_2) ∧ w39.cell? ⟨gb19, 3, none⟩ = some (.string a0_3) ∧ w39.cell? ⟨gb21, 0, none⟩ = some (.int .i64 a1_0) ∧ w39.cell? ⟨gb21, 1, none⟩ = some (.slice A1_1 l1_1.length c1_1) ∧ w39.cell? ⟨gb21, 2, none⟩ = some (.string a1_2) := hS_
        refine norm_ (a' := ?_) ?_ ?_
        rotate_left
        ·simp only [putAll, Act.put, List.setIfInBounds_toArray, List.set_cons_zero, List.set_cons_succ]
         rfl
        refine two_ (i := 6) (j := 7) (Ni := some 5) (Nj := some 6) #[true, true, true, true, true, true, true, false, false, false] #[true, true, true, true, true, true, false, true, false, false] rfl rfl rfl rfl (two_of HT_.out (by kernel_rfl)) (by decide) (by decide) (fun K hK => ?_) (fun K hK => ?_)
        ·skip
         refine box_step ?hg (N := 5) ?hd (cs := #[.bool false, .bool false, .bool false, .bool false, .bool false, .int .i64 0]) (t := 42) ?hr ?_; (case hd => rfl); (case hg => rfl); (case hr => first | (go_simp; done) | (go_simp; rfl))
         intro gb23 hg w40 hbox hb
         have BK23 := am (hbox)
         have GW23 := am (sz hg : w.heap.size ≤ gb23)
         have GE23 := am (sz hg : w.heap.size ≤ gb23)
         replace HB := am (below_step bl hb)
         have NB19_23 := am (nl hg BK19 : gb19 ≠ gb23)
         have NB23_19 := am (ng hg BK19 : gb23 ≠ gb19)
         replace BK19 := kb BK19 hb
         have NB21_23 := am (nl hg BK21 : gb21 ≠ gb23)
         have NB23_21 := am (ng hg BK21 : gb23 ≠ gb21)
         replace BK21 := kb BK21 hb
         clear hb hbox hg
         refine hK.out _ _ ⟨bc BK19, bc BK19, bc BK19, bc BK19, bc BK21, bc BK21, bc BK21⟩ (fun hHeld => ?_)
         clear hK K
         refine nm 5 ?_
         exact norm_ (by first | (simp only [putAll, Act.put, List.setIfInBounds_toArray, List.set_cons_zero, List.set_cons_succ]; done) | (simp only [putAll, Act.put, List.setIfInBounds_toArray, List.set_cons_zero, List.set_cons_succ]; rfl)) (hJ2_5_6 (gb23) _ ⟨hHeld, (bk BK19), (bk BK21), (bk BK23), GW23.out, GE23.out, NB19_23.out, NB23_19.out, NB21_23.out, NB23_21.out, bl⟩)
        ·skip
         refine box_step ?hg (N := 6) ?hd (cs := #[.bool false, .bool false, .bool false, .bool false, .bool false, .int .i64 0]) (t := 42) ?hr ?_; (case hd => rfl); (case hg => rfl); (case hr => first | (go_simp; done) | (go_simp; rfl))
         intro gb25 hg w40 hbox hb
         have BK25 := am (hbox)
         have GW25 := am (sz hg : w.heap.size ≤ gb25)
         have GE25 := am (sz hg : w.heap.size ≤ gb25)
         replace HB := am (below_step bl hb)
         have NB19_25 := am (nl hg BK19 : gb19 ≠ gb25)
         have NB25_19 := am (ng hg BK19 : gb25 ≠ gb19)
         replace BK19 := kb BK19 hb
         have NB21_25 := am (nl hg BK21 : gb21 ≠ gb25)
         have NB25_21 := am (ng hg BK21 : gb25 ≠ gb21)
         replace BK21 := kb BK21 hb
         clear hb hbox hg
         refine hK.out _ _ ⟨bc BK19, bc BK19, bc BK19, bc BK19, bc BK21, bc BK21, bc BK21⟩ (fun hHeld => ?_)
         clear hK K
         refine nm 6 ?_
         exact norm_ (by first | (simp only [putAll, Act.put, List.setIfInBounds_toArray, List.set_cons_zero, List.set_cons_succ]; done) | (simp only [putAll, Act.put, List.setIfInBounds_toArray, List.set_cons_zero, List.set_cons_succ]; rfl)) (hJ2_5_7 (gb25) _ ⟨hHeld, (bk BK19), (bk BK21), (bk BK25), GW25.out, GE25.out, NB19_25.out, NB25_19.out, NB21_25.out, NB25_21.out, bl⟩)
      ·skip
       rintro ⟨gb23, gb25⟩ w40 ⟨hS_, h0_, h1_, h2_, h3_, h4_, h5_, h6_, h7_, h8_, h9_, h10_, h11_, h12_, h13_, h14_, h15_, h16_, h17_, h18_⟩
       have n0_ : Aside0 (w40.heap[gb19]? = some (.cells #[.int .i64 a0_0, .string a0_1, .slice A0_2 l0_2.length c0_2, .string a0_3] 50 (0, 0))) := ⟨h0_⟩
       have n1_ : Aside0 (w40.heap[gb21]? = some (.cells #[.int .i64 a1_0, .slice A1_1 l1_1.length c1_1, .string a1_2] 29 (0, 0))) := ⟨h1_⟩
       have n2_ : Aside0 (w40.heap[gb23]? = some (.cells #[.bool false, .bool false, .bool false, .bool false, .bool false, .int .i64 0] 42 (0, 0))) := ⟨h2_⟩
       have n3_ : Aside0 (w40.heap[gb25]? = some (.cells #[.bool false, .bool false, .bool false, .bool false, .bool false, .int .i64 0] 42 (0, 0))) := ⟨h3_⟩
       have n4_ : Aside0 (w.heap.size ≤ gb23) := ⟨h4_⟩
       have n5_ : Aside0 (w.heap.size ≤ gb23) := ⟨h5_⟩
       have n6_ : Aside0 (gb19 ≠ gb23) := ⟨h6_⟩
       have n7_ : Aside0 (gb23 ≠ gb19) := ⟨h7_⟩
       have n8_ : Aside0 (gb21 ≠ gb23) := ⟨h8_⟩
       have n9_ : Aside0 (gb23 ≠ gb21) := ⟨h9_⟩
       have n10_ : Aside0 (gb25 ≠ gb23) := ⟨h10_⟩
       have n11_ : Aside0 (gb23 ≠ gb25) := ⟨h11_⟩
       have n12_ : Aside0 (w.heap.size ≤ gb25) := ⟨h12_⟩
       have n13_ : Aside0 (w.heap.size ≤ gb25) := ⟨h13_⟩
       have n14_ : Aside0 (gb19 ≠ gb25) := ⟨h14_⟩
       have n15_ : Aside0 (gb25 ≠ gb19) := ⟨h15_⟩
       have n16_ : Aside0 (gb21 ≠ gb25) := ⟨h16_⟩
       have n17_ : Aside0 (gb25 ≠ gb21) := ⟨h17_⟩
       have n18_ : Aside0 (Below w.heap.size w w40) := ⟨h18_⟩
       clear BK19
       clear BK21
       clear HB
       clear h0_ h1_ h2_ h3_ h4_ h5_ h6_ h7_ h8_ h9_ h10_ h11_ h12_ h13_ h14_ h15_ h16_ h17_ h18_
       have BK19 := n0_
       have BK21 := n1_
       have BK23 := n2_
       have BK25 := n3_
       have GW23 := n4_
       have GE23 := n5_
       have NB19_23 := n6_
       have NB23_19 := n7_
       have NB21_23 := n8_
       have NB23_21 := n9_
       have NB25_23 := n10_
       have NB23_25 := n11_
       have GW25 := n12_
       have GE25 := n13_
       have NB19_25 := n14_
       have NB25_19 := n15_
       have NB21_25 := n16_
       have NB25_21 := n17_
       have HB := n18_
       clear n0_ n1_ n2_ n3_ n4_ n5_ n6_ n7_ n8_ n9_ n10_ n11_ n12_ n13_ n14_ n15_ n16_ n17_ n18_
       have hHeld : w40.cell? ⟨gb19, 0, none⟩ = some (.int .i64 a0_0) ∧ w40.cell? ⟨gb19, 1, none⟩ = some (.string a0_1) ∧ w40.cell? ⟨gb19, 2, none⟩ = some (.slice A0_2 l0_2.length c0_2) ∧ w40.cell? ⟨gb19, 3, none⟩ = some (.string a0_3) ∧ w40.cell? ⟨gb21, 0, none⟩ = some (.int .i64 a1_0) ∧ w40.cell? ⟨gb21, 1, none⟩ = some (.slice A1_1 l1_1.length c1_1) ∧ w40.cell? ⟨gb21, 2, none⟩ = some (.string a1_2) := hS_
       refine norm_ (a' := ?_) ?_ ?_
       rotate_left
       ·simp only [putAll, Act.put, List.setIfInBounds_toArray, List.set_cons_zero, List.set_cons_succ]
        rfl
       refine og 5 30 [8, 2] Tryz.func27 #[.slice A1_1 l1_1.length c1_1] (fun K hK => ?_)
       refine (spec_CcOf.calls kj2 _ _ l1_1 t59 t66 t67 t68 t69 t70 _ (cb HR1_1) HC1_1.out A34.out).mono ?_
       rintro e w41 ⟨rfl, hb⟩
       refine ⟨_, rfl, ?_⟩
       replace BK19 := kb BK19 hb
       replace BK21 := kb BK21 hb
       replace BK23 := kb BK23 hb
       replace BK25 := kb BK25 hb
       replace HB := am (below_step bl hb)
       clear hb
       refine hK.out _ _ ⟨bc BK19, bc BK19, bc BK19, bc BK19, bc BK21, bc BK21, bc BK21⟩ (fun hHeld => ?_)
       clear hK K
       refine nm 30 ?_
       exact norm_ (by first | (simp only [putAll, Act.put, List.setIfInBounds_toArray, List.set_cons_zero, List.set_cons_succ]; done) | (simp only [putAll, Act.put, List.setIfInBounds_toArray, List.set_cons_zero, List.set_cons_succ]; rfl)) (hJ2_5_6_7 (gb23, gb25) _ ⟨hHeld, (bk BK19), (bk BK21), (bk BK23), (bk BK25), GW23.out, GE23.out, NB19_23.out, NB23_19.out, NB21_23.out, NB23_21.out, NB25_23.out, NB23_25.out, GW25.out, GE25.out, NB19_25.out, NB25_19.out, NB21_25.out, NB25_21.out, bl⟩)
     ·skip
      rintro gb25 w40 ⟨hS_, h0_, h1_, h2_, h3_, h4_, h5_, h6_, h7_, h8_, h9_⟩
      have n0_ : Aside0 (w40.heap[gb19]? = some (.cells #[.int .i64 a0_0, .string a0_1, .slice A0_2 l0_2.length c0_2, .string a0_3] 50 (0, 0))) := ⟨h0_⟩
      have n1_ : Aside0 (w40.heap[gb21]? = some (.cells #[.int .i64 a1_0, .slice A1_1 l1_1.length c1_1, .string a1_2] 29 (0, 0))) := ⟨h1_⟩
      have n2_ : Aside0 (w40.heap[gb25]? = some (.cells #[.bool false, .bool false, .bool false, .bool false, .bool false, .int .i64 0] 42 (0, 0))) := ⟨h2_⟩
      have n3_ : Aside0 (w.heap.size ≤ gb25) := ⟨h3_⟩
      have n4_ : Aside0 (w.heap.size ≤ gb25) := ⟨h4_⟩
      have n5_ : Aside0 (gb19 ≠ gb25) := ⟨h5_⟩
      have n6_ : Aside0 (gb25 ≠ gb19) := ⟨h6_⟩
      have n7_ : Aside0 (gb21 ≠ gb25) := ⟨h7_⟩
      have n8_ : Aside0 (gb25 ≠ gb21) := ⟨h8_⟩
      have n9_ : Aside0 (Below w.heap.size w w40) := ⟨h9_⟩
      clear BK19
      clear BK21
      clear HB
      clear h0_ h1_ h2_ h3_ h4_ h5_ h6_ h7_ h8_ h9_
      have BK19 := n0_
      have BK21 := n1_
      have BK25 := n2_
      have GW25 := n3_
      have GE25 := n4_
      have NB19_25 := n5_
      have NB25_19 := n6_
      have NB21_25 := n7_
      have NB25_21 := n8_
      have HB := n9_
      clear n0_ n1_ n2_ n3_ n4_ n5_ n6_ n7_ n8_ n9_
      have hHeld : w40.cell? ⟨gb19, 0, none⟩ = some (.int .i64 a0_0) ∧ w40.cell? ⟨gb19, 1, none⟩ = some (.string a0_1) ∧ w40.cell? ⟨gb19, 2, none⟩ = some (.slice A0_2 l0_2.length c0_2) ∧ w40.cell? ⟨gb19, 3, none⟩ = some (.string a0_3) ∧ w40.cell? ⟨gb21, 0, none⟩ = some (.int .i64 a1_0) ∧ w40.cell? ⟨gb21, 1, none⟩ = some (.slice A1_1 l1_1.length c1_1) ∧ w40.cell? ⟨gb21, 2, none⟩ = some (.string a1_2) := hS_
      refine norm_ (a' := ?_) ?_ ?_
      rotate_left
      ·simp only [putAll, Act.put, List.setIfInBounds_toArray, List.set_cons_zero, List.set_cons_succ]
       rfl
      refine one_ (i := 6) (N := some 5) #[true, true, true, true, true, true, true, true, false, false] rfl rfl (one_of HT_.out (by kernel_rfl)) (by decide) (fun K hK => ?_)
      refine box_step ?hg (N := 5) ?hd (cs := #[.bool false, .bool false, .bool false, .bool false, .bool false, .int .i64 0]) (t := 42) ?hr ?_; (case hd => rfl); (case hg => rfl); (case hr => first | (go_simp; done) | (go_simp; rfl))
      intro gb23 hg w41 hbox hb
      have BK23 := am (hbox)
      have GW23 := am (sz hg : w.heap.size ≤ gb23)
      have GE23 := am (sz hg : w.heap.size ≤ gb23)
      replace HB := am (below_step bl hb)
      have NB19_23 := am (nl hg BK19 : gb19 ≠ gb23)
      have NB23_19 := am (ng hg BK19 : gb23 ≠ gb19)
      replace BK19 := kb BK19 hb
      have NB21_23 := am (nl hg BK21 : gb21 ≠ gb23)
      have NB23_21 := am (ng hg BK21 : gb23 ≠ gb21)
      replace BK21 := kb BK21 hb
      have NB25_23 := am (nl hg BK25 : gb25 ≠ gb23)
      have NB23_25 := am (ng hg BK25 : gb23 ≠ gb25)
      replace BK25 := kb BK25 hb
      clear hb hbox hg
      refine hK.out _ _ ⟨bc BK19, bc BK19, bc BK19, bc BK19, bc BK21, bc BK21, bc BK21⟩ (fun hHeld => ?_)
      clear hK K
      refine nm 5 ?_
      exact norm_ (by first | (simp only [putAll, Act.put, List.setIfInBounds_toArray, List.set_cons_zero, List.set_cons_succ]; done) | (simp only [putAll, Act.put, List.setIfInBounds_toArray, List.set_cons_zero, List.set_cons_succ]; rfl)) (hJ2_5_6_7 (gb23, gb25) _ ⟨hHeld, (bk BK19), (bk BK21), (bk BK23), (bk BK25), GW23.out, GE23.out, NB19_23.out, NB23_19.out, NB21_23.out, NB23_21.out, NB25_23.out, NB23_25.out, GW25.out, GE25.out, NB19_25.out, NB25_19.out, NB21_25.out, NB25_21.out, bl⟩)
    ·skip
     rintro gb23 w40 ⟨hS_, h0_, h1_, h2_, h3_, h4_, h5_, h6_, h7_, h8_, h9_⟩
     have n0_ : Aside0 (w40.heap[gb19]? = some (.cells #[.int .i64 a0_0, .string a0_1, .slice A0_2 l0_2.length c0_2, .string a0_3] 50 (0, 0))) := ⟨h0_⟩
     have n1_ : Aside0 (w40.heap[gb21]? = some (.cells #[.int .i64 a1_0, .slice A1_1 l1_1.length c1_1, .string a1_2] 29 (0, 0))) := ⟨h1_⟩
     have n2_ : Aside0 (w40.heap[gb23]? = some (.cells #[.bool false, .bool false, .bool false, .bool false, .bool false, .int .i64 0] 42 (0, 0))) := ⟨h2_⟩
     have n3_ : Aside0 (w.heap.size ≤ gb23) := ⟨h3_⟩
     have n4_ : Aside0 (w.heap.size ≤ gb23) := ⟨h4_⟩
     have n5_ : Aside0 (gb19 ≠ gb23) := ⟨h5_⟩
     have n6_ : Aside0 (gb23 ≠ gb19) := ⟨h6_⟩
     have n7_ : Aside0 (gb21 ≠ gb23) := ⟨h7_⟩
     have n8_ : Aside0 (gb23 ≠ gb21) := ⟨h8_⟩
     have n9_ : Aside0 (Below w.heap.size w w40) := ⟨h9_⟩
     clear BK19
     clear BK21
     clear HB
     clear h0_ h1_ h2_ h3_ h4_ h5_ h6_ h7_ h8_ h9_
     have BK19 := n0_
     have BK21 := n1_
     have BK23 := n2_
     have GW23 := n3_
     have GE23 := n4_
     have NB19_23 := n5_
     have NB23_19 := n6_
     have NB21_23 := n7_
     have NB23_21 := n8_
     have HB := n9_
     clear n0_ n1_ n2_ n3_ n4_ n5_ n6_ n7_ n8_ n9_
     have hHeld : w40.cell? ⟨gb19, 0, none⟩ = some (.int .i64 a0_0) ∧ w40.cell? ⟨gb19, 1, none⟩ = some (.string a0_1) ∧ w40.cell? ⟨gb19, 2, none⟩ = some (.slice A0_2 l0_2.length c0_2) ∧ w40.cell? ⟨gb19, 3, none⟩ = some (.string a0_3) ∧ w40.cell? ⟨gb21, 0, none⟩ = some (.int .i64 a1_0) ∧ w40.cell? ⟨gb21, 1, none⟩ = some (.slice A1_1 l1_1.length c1_1) ∧ w40.cell? ⟨gb21, 2, none⟩ = some (.string a1_2) := hS_
     refine norm_ (a' := ?_) ?_ ?_
     rotate_left
     ·simp only [putAll, Act.put, List.setIfInBounds_toArray, List.set_cons_zero, List.set_cons_succ]
      rfl
     refine one_ (i := 7) (N := some 6) #[true, true, true, true, true, true, true, true, false, false] rfl rfl (one_of HT_.out (by kernel_rfl)) (by decide) (fun K hK => ?_)
     refine box_step ?hg (N := 6) ?hd (cs := #[.bool false, .bool false, .bool false, .bool false, .bool false, .int .i64 0]) (t := 42) ?hr ?_; (case hd => rfl); (case hg => rfl); (case hr => first | (go_simp; done) | (go_simp; rfl))
     intro gb25 hg w41 hbox hb
     have BK25 := am (hbox)
     have GW25 := am (sz hg : w.heap.size ≤ gb25)
     have GE25 := am (sz hg : w.heap.size ≤ gb25)
     replace HB := am (below_step bl hb)
     have NB19_25 := am (nl hg BK19 : gb19 ≠ gb25)
     have NB25_19 := am (ng hg BK19 : gb25 ≠ gb19)
     replace BK19 := kb BK19 hb
     have NB21_25 := am (nl hg BK21 : gb21 ≠ gb25)
     have NB25_21 := am (ng hg BK21 : gb25 ≠ gb21)
     replace BK21 := kb BK21 hb
     have NB23_25 := am (nl hg BK23 : gb23 ≠ gb25)
     have NB25_23 := am (ng hg BK23 : gb25 ≠ gb23)
     replace BK23 := kb BK23 hb
     clear hb hbox hg
     refine hK.out _ _ ⟨bc BK19, bc BK19, bc BK19, bc BK19, bc BK21, bc BK21, bc BK21⟩ (fun hHeld => ?_)
     clear hK K
     refine nm 6 ?_
     exact norm_ (by first | (simp only [putAll, Act.put, List.setIfInBounds_toArray, List.set_cons_zero, List.set_cons_succ]; done) | (simp only [putAll, Act.put, List.setIfInBounds_toArray, List.set_cons_zero, List.set_cons_succ]; rfl)) (hJ2_5_6_7 (gb23, gb25) _ ⟨hHeld, (bk BK19), (bk BK21), (bk BK23), (bk BK25), GW23.out, GE23.out, NB19_23.out, NB23_19.out, NB21_23.out, NB23_21.out, NB25_23.out, NB23_25.out, GW25.out, GE25.out, NB19_25.out, NB25_19.out, NB21_25.out, NB25_21.out, bl⟩)
   rintro ⟨gb23, gb25⟩ w41 ⟨hS_, h0_, h1_, h2_, h3_, h4_, h5_, h6_, h7_, h8_, h9_, h10_, h11_, h12_, h13_, h14_, h15_, h16_, h17_, h18_⟩
   have n0_ : Aside0 (w41.heap[gb19]? = some (.cells #[.int .i64 a0_0, .string a0_1, .slice A0_2 l0_2.length c0_2, .string a0_3] 50 (0, 0))) := ⟨h0_⟩
   have n1_ : Aside0 (w41.heap[gb21]? = some (.cells #[.int .i64 a1_0, .slice A1_1 l1_1.length c1_1, .string a1_2] 29 (0, 0))) := ⟨h1_⟩
   have n2_ : Aside0 (w41.heap[gb23]? = some (.cells #[.bool false, .bool false, .bool false, .bool false, .bool false, .int .i64 0] 42 (0, 0))) := ⟨h2_⟩
   have n3_ : Aside0 (w41.heap[gb25]? = some (.cells #[.bool false, .bool false, .bool false, .bool false, .bool false, .int .i64 0] 42 (0, 0))) := ⟨h3_⟩
   have n4_ : Aside0 (w.heap.size ≤ gb23) := ⟨h4_⟩
   have n5_ : Aside0 (w.heap.size ≤ gb23) := ⟨h5_⟩
   have n6_ : Aside0 (gb19 ≠ gb23) := ⟨h6_⟩
   have n7_ : Aside0 (gb23 ≠ gb19) := ⟨h7_⟩
   have n8_ : Aside0 (gb21 ≠ gb23) := ⟨h8_⟩
   have n9_ : Aside0 (gb23 ≠ gb21) := ⟨h9_⟩
   have n10_ : Aside0 (gb25 ≠ gb23) := ⟨h10_⟩
   have n11_ : Aside0 (gb23 ≠ gb25) := ⟨h11_⟩
   have n12_ : Aside0 (w.heap.size ≤ gb25) := ⟨h12_⟩
   have n13_ : Aside0 (w.heap.size ≤ gb25) := ⟨h13_⟩
   have n14_ : Aside0 (gb19 ≠ gb25) := ⟨h14_⟩
   have n15_ : Aside0 (gb25 ≠ gb19) := ⟨h15_⟩
   have n16_ : Aside0 (gb21 ≠ gb25) := ⟨h16_⟩
   have n17_ : Aside0 (gb25 ≠ gb21) := ⟨h17_⟩
   have n18_ : Aside0 (Below w.heap.size w w41) := ⟨h18_⟩
   clear BK19
   clear BK21
   clear HB
   clear h0_ h1_ h2_ h3_ h4_ h5_ h6_ h7_ h8_ h9_ h10_ h11_ h12_ h13_ h14_ h15_ h16_ h17_ h18_
   have BK19 := n0_
   have BK21 := n1_
   have BK23 := n2_
   have BK25 := n3_
   have GW23 := n4_
   have GE23 := n5_
   have NB19_23 := n6_
   have NB23_19 := n7_
   have NB21_23 := n8_
   have NB23_21 := n9_
   have NB25_23 := n10_
   have NB23_25 := n11_
   have GW25 := n12_
   have GE25 := n13_
   have NB19_25 := n14_
   have NB25_19 := n15_
   have NB21_25 := n16_
   have NB25_21 := n17_
   have HB := n18_
   clear n0_ n1_ n2_ n3_ n4_ n5_ n6_ n7_ n8_ n9_ n10_ n11_ n12_ n13_ n14_ n15_ n16_ n17_ n18_
   have hHeld : w41.cell? ⟨gb19, 0, none⟩ = some (.int .i64 a0_0) ∧ w41.cell? ⟨gb19, 1, none⟩ = some (.string a0_1) ∧ w41.cell? ⟨gb19, 2, none⟩ = some (.slice A0_2 l0_2.length c0_2) ∧ w41.cell? ⟨gb19, 3, none⟩ = some (.string a0_3) ∧ w41.cell? ⟨gb21, 0, none⟩ = some (.int .i64 a1_0) ∧ w41.cell? ⟨gb21, 1, none⟩ = some (.slice A1_1 l1_1.length c1_1) ∧ w41.cell? ⟨gb21, 2, none⟩ = some (.string a1_2) := hS_
   refine norm_ (a' := ?_) ?_ ?_
   rotate_left
   ·simp only [putAll, Act.put, List.setIfInBounds_toArray, List.set_cons_zero, List.set_cons_succ]
    rfl
   refine one_ (i := 8) (N := none) #[true, true, true, true, true, true, true, true, true, false] rfl rfl (one_of HT_.out (by kernel_rfl)) (by decide) (fun K hK => ?_)
   have hs42 : w41.cell? ⟨gb23, 0, none⟩ = some (.bool false) := bc BK23
   have hfs42 := blk_frozen BK23.out 0
   have hns42_0 := NB19_23.out
   have hns42_1 := NB21_23.out
   have hns42_3 := NB25_23.out
   have hms42_0 := NB23_19.out
   have hms42_1 := NB23_21.out
   have hms42_3 := NB23_25.out
   have hs43 : w41.cell? ⟨gb23, 1, none⟩ = some (.bool false) := bc BK23
   have hfs43 := blk_frozen BK23.out 1
   have hns43_0 := NB19_23.out
   have hns43_1 := NB21_23.out
   have hns43_3 := NB25_23.out
   have hms43_0 := NB23_19.out
   have hms43_1 := NB23_21.out
   have hms43_3 := NB23_25.out
   have hs44 : w41.cell? ⟨gb23, 2, none⟩ = some (.bool false) := bc BK23
   have hfs44 := blk_frozen BK23.out 2
   have hns44_0 := NB19_23.out
   have hns44_1 := NB21_23.out
   have hns44_3 := NB25_23.out
   have hms44_0 := NB23_19.out
   have hms44_1 := NB23_21.out
   have hms44_3 := NB23_25.out
   have hs45 : w41.cell? ⟨gb23, 3, none⟩ = some (.bool false) := bc BK23
   have hfs45 := blk_frozen BK23.out 3
   have hns45_0 := NB19_23.out
   have hns45_1 := NB21_23.out
   have hns45_3 := NB25_23.out
   have hms45_0 := NB23_19.out
   have hms45_1 := NB23_21.out
   have hms45_3 := NB23_25.out
   have hs46 : w41.cell? ⟨gb23, 4, none⟩ = some (.bool false) := bc BK23
   have hfs46 := blk_frozen BK23.out 4
   have hns46_0 := NB19_23.out
   have hns46_1 := NB21_23.out
   have hns46_3 := NB25_23.out
   have hms46_0 := NB23_19.out
   have hms46_1 := NB23_21.out
   have hms46_3 := NB23_25.out
   have hs47 : w41.cell? ⟨gb23, 5, none⟩ = some (.int .i64 0) := bc BK23
   have hfs47 := blk_frozen BK23.out 5
   have hns47_0 := NB19_23.out
   have hns47_1 := NB21_23.out
   have hns47_3 := NB25_23.out
   have hms47_0 := NB23_19.out
   have hms47_1 := NB23_21.out
   have hms47_3 := NB23_25.out
   refine skip_ (w1 := ?_) (by rfl) rfl ?_ ?_
   rotate_left
   ·go_simp
    rfl
   refine hK.out _ _ (by (refine ⟨?_, ?_, ?_, ?_, ?_, ?_, ?_⟩ <;> (with_reducible repeat (refine Eq.trans (cell_far ?hfar _) ?_; (case hfar => first | exact NB19_23.out | exact NB21_23.out)))); exact hHeld.1; exact hHeld.2.1; exact hHeld.2.2.1; exact hHeld.2.2.2.1; exact hHeld.2.2.2.2.1; exact hHeld.2.2.2.2.2.1; exact hHeld.2.2.2.2.2.2) (fun hHeld => ?_)
   clear hK K
   refine one_ (i := 9) (N := none) #[true, true, true, true, true, true, true, true, true, true] rfl rfl (one_of HT_.out (by kernel_rfl)) (by decide) (fun K hK => ?_)
   have hs48 : w41.cell? ⟨gb25, 0, none⟩ = some (.bool false) := bc BK25
   have hfs48 := blk_frozen BK25.out 0
   have hns48_0 := NB19_25.out
   have hns48_1 := NB21_25.out
   have hns48_2 := NB23_25.out
   have hms48_0 := NB25_19.out
   have hms48_1 := NB25_21.out
   have hms48_2 := NB25_23.out
   have hs49 : w41.cell? ⟨gb25, 1, none⟩ = some (.bool false) := bc BK25
   have hfs49 := blk_frozen BK25.out 1
   have hns49_0 := NB19_25.out
   have hns49_1 := NB21_25.out
   have hns49_2 := NB23_25.out
   have hms49_0 := NB25_19.out
   have hms49_1 := NB25_21.out
   have hms49_2 := NB25_23.out
   have hs50 : w41.cell? ⟨gb25, 2, none⟩ = some (.bool false) := bc BK25
   have hfs50 := blk_frozen BK25.out 2
   have hns50_0 := NB19_25.out
   have hns50_1 := NB21_25.out
   have hns50_2 := NB23_25.out
   have hms50_0 := NB25_19.out
   have hms50_1 := NB25_21.out
   have hms50_2 := NB25_23.out
   have hs51 : w41.cell? ⟨gb25, 3, none⟩ = some (.bool false) := bc BK25
   have hfs51 := blk_frozen BK25.out 3
   have hns51_0 := NB19_25.out
   have hns51_1 := NB21_25.out
   have hns51_2 := NB23_25.out
   have hms51_0 := NB25_19.out
   have hms51_1 := NB25_21.out
   have hms51_2 := NB25_23.out
   have hs52 : w41.cell? ⟨gb25, 4, none⟩ = some (.bool false) := bc BK25
   have hfs52 := blk_frozen BK25.out 4
   have hns52_0 := NB19_25.out
   have hns52_1 := NB21_25.out
   have hns52_2 := NB23_25.out
   have hms52_0 := NB25_19.out
   have hms52_1 := NB25_21.out
   have hms52_2 := NB25_23.out
   have hs53 : w41.cell? ⟨gb25, 5, none⟩ = some (.int .i64 0) := bc BK25
   have hfs53 := blk_frozen BK25.out 5
   have hns53_0 := NB19_25.out
   have hns53_1 := NB21_25.out
   have hns53_2 := NB23_25.out
   have hms53_0 := NB25_19.out
   have hms53_1 := NB25_21.out
   have hms53_2 := NB25_23.out
   refine skip_ (w1 := ?_) (by rfl) rfl ?_ ?_
   rotate_left
   ·go_simp
    rfl
   refine hK.out _ _ (by (refine ⟨?_, ?_, ?_, ?_, ?_, ?_, ?_⟩ <;> (with_reducible repeat (refine Eq.trans (cell_far ?hfar _) ?_; (case hfar => first | exact NB19_25.out | exact NB21_25.out)))); exact hHeld.1; exact hHeld.2.1; exact hHeld.2.2.1; exact hHeld.2.2.2.1; exact hHeld.2.2.2.2.1; exact hHeld.2.2.2.2.2.1; exact hHeld.2.2.2.2.2.2) (fun hHeld => ?_)
   clear hK K
   refine done_ (done_of HT_.out (by kernel_rfl)) ?_
   have H := HH_.out
   clear HH_
   by_cases c35 : t57 = true
   ·subst c35
    rw [if_pos rfl] at H
    obtain rfl := si_ H
    have hnb54 := NB23_19.out
    have hnc54 := NB19_23.out
    have hnb55 := NB23_21.out
    have hnc55 := NB21_23.out
    have hnb56 := NB23_25.out
    have hnc56 := NB25_23.out
    obtain ⟨_, _, _, _, _, _, _, _, _, _, _, _⟩ := cl6 BK23
    try go_wp2
    go_ret
    exact ⟨rf, bl⟩
   replace c35 := nb_ c35
   subst c35
   rw [if_neg ff_] at H
   by_cases c58 : t59 = true
   ·subst c58
    rw [if_pos rfl] at H
    obtain rfl := si_ H
    have hnb77 := NB23_19.out
    have hnc77 := NB19_23.out
    have hnb78 := NB23_21.out
    have hnc78 := NB21_23.out
    have hnb79 := NB23_25.out
    have hnc79 := NB25_23.out
    obtain ⟨_, _, _, _, _, _, _, _, _, _, _, _⟩ := cl6 BK23
    have hnb81 := NB25_19.out
    have hnc81 := NB19_25.out
    have hnb82 := NB25_21.out
    have hnc82 := NB21_25.out
    obtain ⟨_, _, _, _, _, _, _, _, _, _, _, _⟩ := cl6 BK25
    try go_wp2
    go_ret
    exact ⟨rf, bl⟩
   replace c58 := nb_ c58
   subst c58
   rw [if_neg ff_] at H
   by_cases c84 : t67 = true
   ·subst c84
    rw [if_pos rfl] at H
    obtain rfl := si_ H
    have hnb86 := NB23_19.out
    have hnc86 := NB19_23.out
    have hnb87 := NB23_21.out
    have hnc87 := NB21_23.out
    have hnb88 := NB23_25.out
    have hnc88 := NB25_23.out
    obtain ⟨_, _, _, _, _, _, _, _, _, _, _, _⟩ := cl6 BK23
    have hnb89 := NB25_19.out
    have hnc89 := NB19_25.out
    have hnb90 := NB25_21.out
    have hnc90 := NB21_25.out
    obtain ⟨_, _, _, _, _, _, _, _, _, _, _, _⟩ := cl6 BK25
    try go_wp2
    go_ret
    exact ⟨rf, bl⟩
   replace c84 := nb_ c84
   subst c84
   rw [if_neg ff_] at H
   by_cases c72 : t69 = true
   rotate_left
   ·replace c72 := nb_ c72
    subst c72
    rw [if_neg ff_] at H
    obtain rfl := si_ H
    have hnb92 := NB23_19.out
    have hnc92 := NB19_23.out
    have hnb93 := NB23_21.out
    have hnc93 := NB21_23.out
    have hnb94 := NB23_25.out
    have hnc94 := NB25_23.out
    obtain ⟨_, _, _, _, _, _, _, _, _, _, _, _⟩ := cl6 BK23
    have hnb95 := NB25_19.out
    have hnc95 := NB19_25.out
    have hnb96 := NB25_21.out
    have hnc96 := NB21_25.out
    obtain ⟨_, _, _, _, _, _, _, _, _, _, _, _⟩ := cl6 BK25
    try go_wp2
    go_ret
    exact ⟨rf, bl⟩
   subst c72
   rw [if_pos rfl] at H
   revert H
   refine ok1 fun t71 A97 H => ?_
   revert H
   refine ok1 fun t73 A98 H => ?_
   obtain rfl := si_ H
   have hnb99 := NB23_19.out
   have hnc99 := NB19_23.out
   have hnb132 := NB23_21.out
   have hnc132 := NB21_23.out
   have hnb133 := NB23_25.out
   have hnc133 := NB25_23.out
   obtain ⟨_, _, _, _, _, _, _, _, _, _, _, _⟩ := cl6 BK23
   have hnb135 := NB25_19.out
   have hnc135 := NB19_25.out
   have hnb136 := NB25_21.out
   have hnc136 := NB21_25.out
   obtain ⟨_, _, _, _, _, _, _, _, _, _, _, _⟩ := cl6 BK25
   have hnb138 := NB21_19.out
   have hnc138 := NB19_21.out
   obtain ⟨_, _, _, _, _, _⟩ := cl3 BK21
   try go_wp2_with (first | (go_at_call 94; refine (spec_VaryOf.calls kj2 _ _ l1_1 t71 _ (Kd.C_below HR1_1.out bl) HC1_1.out A97.out).mono ?_; rintro e w140 ⟨v507, rfl, ho0, hb⟩; have HO76 := am (Kd.R_lower ho0 (below_size bl)); replace BK19 := kg2 BK19 NB19_25 NB19_23 hb; replace BK21 := kg2 BK21 NB21_25 NB21_23 hb; replace BK23 := am (blk_below (g := gb23) (o := .cells #[.bool false, .bool t60, .bool t61, .bool t62, .bool t63, .int .i64 t65] 42 (0, 0)) (pt1 BK23 NB23_25) hb); replace BK25 := am (blk_below (g := gb25) (o := .cells #[.bool false, .bool t66, .bool false, .bool t68, .bool true, .int .i64 t70] 42 (0, 0)) (pt1 BK25 NB25_23) hb); replace HB := am (below_step bl hb); clear hb ho0; obtain ⟨Ao80, co80, eo80⟩ := Kd.R_slice HO76.out; subst eo80) | (go_at_call 93; refine (spec_l9Names.calls kj2 _ _ t71 t73 _ (rc HO76) ((Kd.R_reads' HO76.out).2.1) A98.out).mono ?_; rintro e w' ⟨rfl, ⟨nd, rfl⟩⟩))
   go_ret
   exact ⟨rf, bl⟩
end Go.Proofs.YtjlpjbkpmmpojaaGreatDoor.All
