-- Written by a program of this session (wip/tools/hprint.py) out of the translation. Lean checks it.
import Derived.Test.YtjlpjbkpmmpojaaGreatDoorKHitsAllx0
namespace Go.Proofs.YtjlpjbkpmmpojaaGreatDoor.All
open Go.RowKit Go.Proofs.YtjlpjbkpmmpojaaGreatDoorW.PrintWords Go.Proofs.YtjlpjbkpmmpojaaGreatDoorW.PrintLast Go.Proofs.YtjlpjbkpmmpojaaGreatDoorW.PrintMore
attribute [local go_sem] max2_int min2_int max_two min_two max_three min_three max_four min_four  -- for this text's walks alone
set_option linter.unusedVariables false
set_option linter.unusedSimpArgs false

/-! ### spec_l9Copy: function 152 -/
def spec_l9Copy.f (l0 : List (S116)) : Option ((List (S116))) := (some (([] : List (S116)) : List (S116))).bind fun y523 => (if y523.length + l0.length < 4398046511104 then (some (y523 ++ l0)) else (none))
set_option maxHeartbeats 8000000 in
set_option maxRecDepth 100000 in
theorem spec_l9Copy.calls (A0 : Option Addr) (c0 : Nat) (l0 : List (S116)) (r : List (S116)) (w : World) (hr0 : Kd.C k116 w A0 l0.length l0) (hc0 : l0.length ≤ c0) (h : spec_l9Copy.f l0 = some r) :
  Calls Tryz.prog 152 #[.slice A0 l0.length c0] w fun e w' => ∃ v0_ : Value, e = .returned (v0_) ∧ Kd.R k116 116 w' w.heap.size (fun _ => True) v0_ r ∧ Below w.heap.size w w' := by
 have HR0 := am hr0
 have HC0 := am hc0
 clear hr0 hc0
 have HB := am (Below.refl w.heap.size w)
 unfold spec_l9Copy.f at h
 have H := h
 clear h
 obtain ⟨y523, hy523⟩ : ∃ y_ : List (S116), y_ = (([] : List (S116))) := ⟨_, rfl⟩
 replace H : (if y523.length + l0.length < 4398046511104 then (some (y523 ++ l0)) else (none)) = some r := by first | (rw [hy523]; with_reducible exact H) | (have H2_ := (Option.bind_some _ _).symm.trans H; rw [hy523]; with_reducible exact H2_) | (have H2_ := (Option.bind_some _ _).symm.trans H; with_reducible exact H2_) | with_reducible exact H | (rw [hy523]; exact H) | exact H
 have Ny523 := am hy523
 clear hy523
 revert H
 refine ifn fun c2 H => ?_
 have LMc2 := am c2
 clear c2
 obtain ⟨y526, hy526⟩ : ∃ y_ : List (S116), y_ = (y523 ++ l0) := ⟨_, rfl⟩
 replace H : (some y526) = some r := by first | (rw [hy526]; with_reducible exact H) | (have H2_ := (Option.bind_some _ _).symm.trans H; rw [hy526]; with_reducible exact H2_) | (have H2_ := (Option.bind_some _ _).symm.trans H; with_reducible exact H2_) | with_reducible exact H | (rw [hy526]; exact H) | exact H
 have Ny526 := am hy526
 clear hy526
 obtain rfl := Option.some.inj H
 go_enter Tryz.func152, Tryz.ntmps152
 go_wp2_with (first | ((with_reducible refine gate_dst (N := 3) rfl ?_); refine Kd.R_lit k116 _ 116 ?hg (N := 3) ?hd (xs := ([] : List (S116))) (inner := []) (ok := fun _ => True) (okp := fun _ => True) ?hr ?hp (fun _ hk => hk) trivial (Below.refl _ _) (Nat.le_refl _) (by simp) ?_; (case hd => rfl); (case hg => rfl); (case hr => first | (go_simp; done) | (go_simp; rfl)); (case hp => exact (Reps.none _ _)); intro v524 w3 ho4 hb hg_ hnew_; clear hg_ hnew_; (first | rw [← Ny523.out] at ho4 | (simp only [Int.reduceToNat] at ho4; rw [← Ny523.out] at ho4)); have HO525 := am (Kd.R_lower ho4 (below_size bl)); replace HB := am (below_step bl hb); clear hb ho4) | ((with_reducible refine gate_builtin (b := .append) (xs := #[.tmp 3, .tmp 4]) rfl ?_); at_builtin; refine Kd.R_append_rows k116 (w0 := w) w.heap.size rfl (.tmp 3) (.tmp 4) 27 116 (.agg #[(.string ⟨#[]⟩), (.string ⟨#[]⟩)]) 32 rfl Tryz.underlying27 info116 rfl (by decide) (by omega) v524 y523 l0 _ _ _ (fun _ => True) (fun _ => False) rfl rfl ?aO ?aR (fun _ _ h => h) (fun _ h => h.elim) ?aF ?aB ?aS ?aL ?_; (case aR => exact cb HR0); (case aB => exact bl); (case aF => exact (fun _ _ => trivial)); (case aO => exact (ro HO525)); (case aS => exact (below_size bl)); (case aL => have := LMc2.out; omega); intro v527 w5 ho hb hg hat; rw [← Ny526.out] at ho; have n0_ := am (hb); have n1_ := am (ho); clear HB; clear HO525; have HB := n0_; have HO528 := n1_; clear n0_ n1_; clear ho hb hg hat))
 go_ret
 exact ⟨_, rf, by (with_reducible repeat (first | apply Kd.R_alloc | apply Kd.R_drewN | apply Kd.R_drew)); exact HO528.out, bl⟩

/-! ### spec_l9Resp: function 102 -/
def spec_l9Resp.f (a0_0 : Int) (l0_1 : List (S116)) (a0_2 : ByteArray) : Option (Int × (List (S116)) × ByteArray) := (spec_l9Copy.f l0_1).bind fun t531 => (some (a0_0, t531, a0_2))
set_option maxHeartbeats 8000000 in
set_option maxRecDepth 100000 in
theorem spec_l9Resp.calls (a0_0 : Int) (A0_1 : Option Addr) (c0_1 : Nat) (l0_1 : List (S116)) (a0_2 : ByteArray) (r1 : Int) (r2 : List (S116)) (r3 : ByteArray) (w : World) (hr0_1 : Kd.C k116 w A0_1 l0_1.length l0_1) (hc0_1 : l0_1.length ≤ c0_1) (h : spec_l9Resp.f a0_0 l0_1 a0_2 = some (r1, r2, r3)) :
  Calls Tryz.prog 102 #[.agg #[.int .i64 a0_0, .slice A0_1 l0_1.length c0_1, .string a0_2]] w fun e w' => ∃ v1_ : Value, e = .returned (.agg #[.int .i64 r1, v1_, .string r3]) ∧ Kd.R k116 116 w' w.heap.size (fun _ => True) v1_ r2 ∧ Below w.heap.size w w' := by
 have hu29 := Tryz.underlying29
 have HR0_1 := am hr0_1
 have HC0_1 := am hc0_1
 clear hr0_1 hc0_1
 have HB := am (Below.refl w.heap.size w)
 unfold spec_l9Resp.f at h
 have H := h
 clear h
 revert H
 refine ok1 fun t531 A2 H => ?_
 simp only [Option.some.injEq, Prod.mk.injEq] at H
 obtain ⟨rfl, rfl, rfl⟩ := H
 go_enter Tryz.func102, Tryz.ntmps102
 go_wp2_with ((with_reducible refine gw ?_); first | (refine bx 1 #[.int .i64 a0_0, .slice A0_1 l0_1.length c0_1, .string a0_2] 29 ?_; intro gb529 hg w3 hbox hb; have BK529 := am (hbox); have GW529 := am (sz hg : w.heap.size ≤ gb529); have GE529 := am (sz hg : w.heap.size ≤ gb529); replace HB := am (below_step bl hb); clear hb hbox hg) | (refine bx 2 #[.int .i64 0, .slice none 0 0, .string (⟨#[]⟩ : ByteArray)] 29 ?_; intro gb530 hg w4 hbox hb; have BK530 := am (hbox); have GW530 := am (sz hg : w.heap.size ≤ gb530); have GE530 := am (sz hg : w.heap.size ≤ gb530); replace HB := am (below_step bl hb); have NB529_530 := am (nl hg BK529 : gb529 ≠ gb530); have NB530_529 := am (ng hg BK529 : gb530 ≠ gb529); replace BK529 := kb BK529 hb; clear hb hbox hg; have hnb5 := NB529_530.out; have hnc5 := NB530_529.out; obtain ⟨z6_0, y6_0, z6_1, y6_1, z6_2, y6_2⟩ := cl3 BK529) | (refine gl 5 Tryz.func152 #[.slice A0_1 l0_1.length c0_1] ?_; (with_reducible refine (spec_l9Copy.calls _ _ l0_1 t531 _ ?side1 ?side2 A2.out).mono ?_); (case side1 => exact cb HR0_1); (case side2 => exact HC0_1.out); rintro e w7 ⟨v532, rfl, ho0, hb⟩; refine ⟨_, rfl, ?_⟩; have HO533 := am (Kd.R_lower ho0 (below_size bl)); replace BK529 := kb BK529 hb; replace BK530 := kb BK530 hb; replace HB := am (below_step bl hb); clear hb ho0; obtain ⟨Ao8, co8, eo8⟩ := Kd.R_slice HO533.out; subst eo8; obtain ⟨z9_0, y9_0, z9_1, y9_1, z9_2, y9_2⟩ := cl3 BK529; obtain ⟨z10_0, y10_0, z10_1, y10_1, z10_2, y10_2⟩ := cl3 BK530))
 refine bodyPost_ret (results_cell_row rfl _ _ gb530 29 #[.int .i64 a0_0, .slice Ao8 t531.length co8, .string a0_2] (0, 0) _ rfl (pt1 BK530 NB530_529) Tryz.underlying29 rfl (by kernel_rfl)) rfl ?_
 exact ⟨_, rf, rj (Kd.R_types (Kd.R_types HO533.out BK529.out (by decide)) BK530.out (by decide)) (fun _ hk => trivial), bl⟩

end Go.Proofs.YtjlpjbkpmmpojaaGreatDoor.All
