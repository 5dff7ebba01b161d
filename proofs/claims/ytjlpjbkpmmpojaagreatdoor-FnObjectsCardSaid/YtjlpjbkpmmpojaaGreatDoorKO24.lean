import Derived.Test.YtjlpjbkpmmpojaaGreatDoorKO11
namespace Go.Proofs.YtjlpjbkpmmpojaaGreatDoor.All
open Go.RowKit Go.Proofs.YtjlpjbkpmmpojaaGreatDoorW.PrintWords Go.Proofs.YtjlpjbkpmmpojaaGreatDoorW.PrintLast Go.Proofs.YtjlpjbkpmmpojaaGreatDoorW.PrintMore
set_option maxHeartbeats 8000000
set_option maxRecDepth 100000
attribute [local go_sem] min2_int min_two
set_option linter.unusedVariables false
set_option linter.unusedSimpArgs false
def spec_l9Copy.f (l0 : List (S116)) : Option ((List (S116))) := (some (([] : List (S116)) : List (S116))).bind fun y6 => (if y6.length + l0.length < 4398046511104 then (some (y6 ++ l0)) else (none))
theorem spec_l9Copy.calls (A0 : Option Addr) (c0 : Nat) (l0 : List (S116)) (r : List (S116)) (w : World) (hr0 : Kd.C k116 w A0 l0.length l0) (hc0 : l0.length ≤ c0) (h : spec_l9Copy.f l0 = some r) :
  Calls Tryz.prog 152 #[.slice A0 l0.length c0] w fun e w' => ∃ v0_ : Value, e = .returned (v0_) ∧ Kd.R k116 116 w' w.heap.size (fun _ => True) v0_ r ∧ Below w.heap.size w w' := by
 have HR0 := am hr0
 have HC0 := am hc0
 clear hr0 hc0
 have HB := am (Below.refl w.heap.size w)
 unfold spec_l9Copy.f at h
 have H := h
 clear h
 obtain ⟨y6, hy6⟩ : ∃ y_, y_ = (([] : List (S116))) := ⟨_, rfl⟩
 (try with_reducible replace H := bs_ H)
 rw [← hy6] at H
 have Ny6 := am hy6
 clear hy6
 revert H
 refine ifn fun c2 H => ?_
 have LMc2 := am c2
 clear c2
 obtain ⟨y7, hy7⟩ : ∃ y_ : List (S116), y_ = (y6 ++ l0) := ⟨_, rfl⟩
 replace H : (some y7) = some r := by first | (rw [hy7]; with_reducible exact H) | (have H2_ := (Option.bind_some _ _).symm.trans H; rw [hy7]; with_reducible exact H2_) | (have H2_ := (Option.bind_some _ _).symm.trans H; with_reducible exact H2_) | with_reducible exact H | (rw [hy7]; exact H) | exact H
 have Ny7 := am hy7
 clear hy7
 obtain rfl := si_ H
 go_enter Tryz.func152, Tryz.ntmps152
 go_wp2_with (first | ((with_reducible refine gate_dst (N := 3) rfl ?_); refine Kd.R_lit k116 _ 116 ?hg (N := 3) ?hd (xs := ([] : List (S116))) (inner := []) (ok := fun _ => True) (okp := fun _ => True) ?hr ?hp (fun _ hk => hk) trivial (Below.refl _ _) (Nat.le_refl _) (by simp) ?_; (case hd => rfl); (case hg => rfl); (case hr => first | (go_simp; done) | (go_simp; rfl)); (case hp => exact (Reps.none _ _)); intro v10 w3 ho4 hb hg_ hnew_; clear hg_ hnew_; (first | rw [← Ny6.out] at ho4 | (simp only [Int.reduceToNat] at ho4; rw [← Ny6.out] at ho4)); have HO8 := am (Kd.R_lower ho4 (below_size bl)); replace HB := am (below_step bl hb); clear hb ho4) | ((with_reducible refine gate_builtin (b := .append) (xs := #[.tmp 3, .tmp 4]) rfl ?_); at_builtin; refine Kd.R_append_rows k116 (w0 := w) w.heap.size rfl (.tmp 3) (.tmp 4) 27 116 (.agg #[(.string ⟨#[]⟩), (.string ⟨#[]⟩)]) 32 rfl Tryz.underlying27 info116 rfl (by decide) (by omega) v10 y6 l0 _ _ _ (fun _ => True) (fun _ => False) rfl rfl ?aO ?aR (fun _ _ h => h) (fun _ h => h.elim) ?aF ?aB ?aS ?aL ?_; (case aR => exact cb HR0); (case aB => exact bl); (case aF => exact (fun _ _ => trivial)); (case aO => exact (ro HO8)); (case aS => exact (below_size bl)); (case aL => have := LMc2.out; omega); intro v12 w5 ho hb hg hat; rw [← Ny7.out] at ho; have n0_ := am (hb); have n1_ := am (ho); clear HB; clear HO8; have HB := n0_; have HO11 := n1_; clear n0_ n1_; clear ho hb hg hat))
 go_ret
 exact ⟨_, rf, by (with_reducible repeat (first | apply Kd.R_alloc | apply Kd.R_drewN | apply Kd.R_drew)); exact HO11.out, bl⟩
def spec_l9Resp.f (a0_0 : Int) (l0_1 : List (S116)) (a0_2 : ByteArray) : Option (Int × (List (S116)) × ByteArray) := (spec_l9Copy.f l0_1).bind fun t11 => (some (a0_0, t11, a0_2))
theorem spec_l9Resp.calls (a0_0 : Int) (A0_1 : Option Addr) (c0_1 : Nat) (l0_1 : List (S116)) (a0_2 : ByteArray) (r1 : Int) (r2 : List (S116)) (r3 : ByteArray) (w : World) (hr0_1 : Kd.C k116 w A0_1 l0_1.length l0_1) (hc0_1 : l0_1.length ≤ c0_1) (h : spec_l9Resp.f a0_0 l0_1 a0_2 = some (r1, r2, r3)) :
  Calls Tryz.prog 102 #[.agg #[.int .i64 a0_0, .slice A0_1 l0_1.length c0_1, .string a0_2]] w fun e w' => ∃ v1_ : Value, e = .returned (.agg #[.int .i64 r1, v1_, .string r3]) ∧ Kd.R k116 116 w' w.heap.size (fun _ => True) v1_ r2 ∧ Below w.heap.size w w' := by
 have hu29 := Tryz.underlying29
 have HR0_1 := am hr0_1
 have HC0_1 := am hc0_1
 clear hr0_1 hc0_1
 have HB := am (Below.refl w.heap.size w)
 unfold spec_l9Resp.f at h
 have H := h
 clear h
 revert H
 refine ok1 fun t11 A2 H => ?_
 simp only [Option.some.injEq, Prod.mk.injEq] at H
 obtain ⟨rfl, rfl, rfl⟩ := H
 go_enter Tryz.func102, Tryz.ntmps102
 go_wp2_with ((with_reducible refine gw ?_); first | (refine bx 1 #[.int .i64 a0_0, .slice A0_1 l0_1.length c0_1, .string a0_2] 29 ?_; intro gb6 hg w3 hbox hb; have BK6 := am (hbox); have GW6 := am (sz hg : w.heap.size ≤ gb6); have GE6 := am (sz hg : w.heap.size ≤ gb6); replace HB := am (below_step bl hb); clear hb hbox hg) | (refine bx 2 #[.int .i64 0, .slice none 0 0, .string (⟨#[]⟩ : ByteArray)] 29 ?_; intro gb10 hg w4 hbox hb; have BK10 := am (hbox); have GW10 := am (sz hg : w.heap.size ≤ gb10); have GE10 := am (sz hg : w.heap.size ≤ gb10); replace HB := am (below_step bl hb); have NB6_10 := am (nl hg BK6 : gb6 ≠ gb10); have NB10_6 := am (ng hg BK6 : gb10 ≠ gb6); replace BK6 := kb BK6 hb; clear hb hbox hg; have hnb5 := NB6_10.out; have hnc5 := NB10_6.out; obtain ⟨_, _, _, _, _, _⟩ := cl3 BK6) | (refine gl 5 Tryz.func152 #[.slice A0_1 l0_1.length c0_1] ?_; refine (spec_l9Copy.calls _ _ l0_1 t11 _ (cb HR0_1) HC0_1.out A2.out).mono ?_; rintro e w7 ⟨v13, rfl, ho0, hb⟩; refine ⟨_, rfl, ?_⟩; have HO12 := am (Kd.R_lower ho0 (below_size bl)); replace BK6 := kb BK6 hb; replace BK10 := kb BK10 hb; replace HB := am (below_step bl hb); clear hb ho0; obtain ⟨Ao8, co8, eo8⟩ := Kd.R_slice HO12.out; subst eo8; obtain ⟨_, _, _, _, _, _⟩ := cl3 BK6; obtain ⟨_, _, _, _, _, _⟩ := cl3 BK10))
 refine bodyPost_ret (results_cell_row rfl _ _ gb10 29 #[.int .i64 a0_0, .slice Ao8 t11.length co8, .string a0_2] (0, 0) _ rfl (pt1 BK10 NB10_6) Tryz.underlying29 rfl (by kernel_rfl)) rfl ?_
 exact ⟨_, rf, rj (Kd.R_types (Kd.R_types HO12.out BK6.out (by decide)) BK10.out (by decide)) (fun _ hk => trivial), bl⟩
end Go.Proofs.YtjlpjbkpmmpojaaGreatDoor.All
