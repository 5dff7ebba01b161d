-- Written by a program of this session (wip/tools/hprint.py) out of the translation. Lean checks it.
import Derived.Test.YtdbgkookjpgnnaaGreatDoorAllx0
namespace Go.Proofs.YtdbgkookjpgnnaaGreatDoor.All
open Go.RowKit Go.Proofs.YtdbgkookjpgnnaaGreatDoorW.PrintWords Go.Proofs.YtdbgkookjpgnnaaGreatDoorW.PrintLast Go.Proofs.YtdbgkookjpgnnaaGreatDoorW.PrintMore
attribute [local go_sem] max2_int min2_int max_two min_two max_three min_three max_four min_four   -- for this text's walks alone
set_option linter.unusedVariables false
set_option linter.unusedSimpArgs false

/-! ### laws_szField: function 87 -/
def laws_szField.f (a0_0 : ByteArray) (a0_1 : ByteArray) (a1 : Int) : Option (Int) := if (wrap64 (a1 - (a0_0.size : Int))) < 0 then (some (-1)) else (if (wrap64 ((wrap64 (a1 - (a0_0.size : Int))) - (a0_1.size : Int))) < 0 then (some (-1)) else (some (wrap64 ((wrap64 (a1 - (a0_0.size : Int))) - (a0_1.size : Int)))))
set_option maxHeartbeats 8000000 in
set_option maxRecDepth 100000 in
theorem laws_szField.calls (a0_0 : ByteArray) (a0_1 : ByteArray) (a1 : Int) (r : Int) (w : World) (h : laws_szField.f a0_0 a0_1 a1 = some r) :
  Calls Tryz.prog 87 #[.agg #[.string a0_0, .string a0_1], .int .i64 a1] w fun e w' => e = .returned (.int .i64 r) ∧ Below w.heap.size w w' := by
 have hu115 := Tryz.underlying115
 have HB := am (Below.refl w.heap.size w)
 unfold laws_szField.f at h
 have H := h
 clear h
 by_cases c3 : (wrap64 (a1 - (a0_0.size : Int))) < 0
 ·rw [if_pos c3] at H
  have c3b0 := decide_eq_true c3
  clear c3
  obtain rfl := Option.some.inj H
  go_enter Tryz.func87, Tryz.ntmps87
  go_wp2_with (first | (refine bx 2 #[.string a0_0, .string a0_1] 115 ?_; intro gb922 hg w4 hbox hb; have BK922 := am (hbox); have GW922 := am (sz hg : w.heap.size ≤ gb922); have GE922 := am (sz hg : w.heap.size ≤ gb922); replace HB := am (below_step bl hb); clear hb hbox hg; obtain ⟨z5_0, y5_0, z5_1, y5_1⟩ := cl2 BK922))
  go_ret
  exact ⟨rf, bl⟩
 rw [if_neg c3] at H
 have c3b0 := decide_eq_false c3
 clear c3
 by_cases c6 : (wrap64 ((wrap64 (a1 - (a0_0.size : Int))) - (a0_1.size : Int))) < 0
 ·rw [if_pos c6] at H
  have c6b0 := decide_eq_true c6
  clear c6
  obtain rfl := Option.some.inj H
  go_enter Tryz.func87, Tryz.ntmps87
  go_wp2_with (first | (refine bx 2 #[.string a0_0, .string a0_1] 115 ?_; intro gb922 hg w7 hbox hb; have BK922 := am (hbox); have GW922 := am (sz hg : w.heap.size ≤ gb922); have GE922 := am (sz hg : w.heap.size ≤ gb922); replace HB := am (below_step bl hb); clear hb hbox hg; obtain ⟨z8_0, y8_0, z8_1, y8_1⟩ := cl2 BK922))
  go_ret
  exact ⟨rf, bl⟩
 rw [if_neg c6] at H
 have c6b0 := decide_eq_false c6
 clear c6
 obtain rfl := Option.some.inj H
 go_enter Tryz.func87, Tryz.ntmps87
 go_wp2_with (first | (refine bx 2 #[.string a0_0, .string a0_1] 115 ?_; intro gb922 hg w9 hbox hb; have BK922 := am (hbox); have GW922 := am (sz hg : w.heap.size ≤ gb922); have GE922 := am (sz hg : w.heap.size ≤ gb922); replace HB := am (below_step bl hb); clear hb hbox hg; obtain ⟨z10_0, y10_0, z10_1, y10_1⟩ := cl2 BK922))
 go_ret
 exact ⟨rf, bl⟩

/-! ### laws_szFieldS: function 21 -/
theorem u21HB {p : Prop} (h : p := by repeat (first | (with_reducible first | exact HB.out | apply below_alloc | apply pw_below_drewN | apply below_drew1) | exact HB.out)) : p := h
def laws_szFieldS.l0 : Nat → List (S115) → Int → Int → Option (Int)
 | 0, _, _, _ => none
 | k + 1, x0, x1, x5 => if x5 < (x0.length : Int) then (if 0 ≤ x5 then ((laws_szField.f ((rd_T115 x0 x5).f0) ((rd_T115 x0 x5).f1) x1).bind fun t924 => (if t924 < 0 then (some (-1)) else (laws_szFieldS.l0 k x0 t924 (wrap64 (x5 + 1))))) else (none)) else (some x1)
def laws_szFieldS.f (k : Nat) (l0 : List (S115)) (a1 : Int) : Option (Int) := if (wrap64 (a1 - (l0.length : Int))) < 0 then (some (-1)) else (laws_szFieldS.l0 k l0 (wrap64 (a1 - (l0.length : Int))) 0)
theorem laws_szFieldS.mono_l : ∀ k, (∀ y0 y1 y2, LeO (laws_szFieldS.l0 k y0 y1 y2) (laws_szFieldS.l0 (k + 1) y0 y1 y2))
 | 0 => fun _ _ _ r h => by simp [laws_szFieldS.l0] at h
 | k + 1 => by
  have ih0 := laws_szFieldS.mono_l k
  ·intro y0 y1 y2
   unfold laws_szFieldS.l0
   exact mo
theorem laws_szFieldS.mono : ∀ a0 a1 k, LeO (laws_szFieldS.f k a0 a1) (laws_szFieldS.f (k + 1) a0 a1) := by
 intro a0 a1 k
 have ih0 := laws_szFieldS.mono_l k
 unfold laws_szFieldS.f
 exact mo
set_option maxHeartbeats 8000000 in
set_option maxRecDepth 100000 in
theorem laws_szFieldS.calls (k : Nat) (A0 : Option Addr) (c0 : Nat) (l0 : List (S115)) (a1 : Int) (r : Int) (w : World) (hr0 : Kd.C k115 w A0 l0.length l0) (hc0 : l0.length ≤ c0) (h : laws_szFieldS.f k l0 a1 = some r) :
  Calls Tryz.prog 21 #[.slice A0 l0.length c0, .int .i64 a1] w fun e w' => e = .returned (.int .i64 r) ∧ Below w.heap.size w w' := by
 have hu115 := Tryz.underlying115
 have HR0 := am hr0
 have HC0 := am hc0
 clear hr0 hc0
 have HB := am (Below.refl w.heap.size w)
 unfold laws_szFieldS.f at h
 have H := h
 clear h
 by_cases c3 : (wrap64 (a1 - (l0.length : Int))) < 0
 ·rw [if_pos c3] at H
  have c3b0 := decide_eq_true c3
  clear c3
  obtain rfl := Option.some.inj H
  go_enter Tryz.func21, Tryz.ntmps21
  go_wp2
  go_ret
  exact ⟨rf, bl⟩
 rw [if_neg c3] at H
 have c3b0 := decide_eq_false c3
 clear c3
 have H' := am H
 clear H
 go_enter Tryz.func21, Tryz.ntmps21
 go_wp2
 (try simp only [Act.put, List.setIfInBounds_toArray, List.set_cons_zero, List.set_cons_succ])
 go_loopg [1, 5] k (fun kq v1 v5 w' => ∃ (x1_1 : Int) (x5_1 : Int), v1 = .int .i64 x1_1 ∧ v5 = .int .i64 x5_1 ∧ Aside0 (laws_szFieldS.l0 kq l0 x1_1 x5_1 = some r) ∧ Aside0 (kq ≤ k) ∧ Aside0 (Below w.heap.size w w'))
 case atStart => exact ⟨(wrap64 (a1 - (l0.length : Int))), (0), rs, rs, H', ⟨Nat.le_refl _⟩, ⟨u21HB⟩⟩
 case round =>
  clear H'
  try clear c2
  try clear p2
  try clear c3
  try clear c3b0
  obtain ⟨x1_1, x5_1, rfl, rfl, HA, HK1, HB⟩ := hrel
  cases gk with
  | zero => exact absurd HA.out (by simp [laws_szFieldS.l0])
  | succ k1 =>
   have H := HA.out
   clear HA
   simp only [laws_szFieldS.l0] at H
   by_cases c4 : x5_1 < (l0.length : Int)
   rotate_left
   ·rw [if_neg c4] at H
    have c4b0 := decide_eq_false c4
    clear c4
    obtain rfl := Option.some.inj H
    go_wp2
    go_ret
    exact ⟨rf, bl⟩
   rw [if_pos c4] at H
   have c4b0 := decide_eq_true c4
   clear c4
   revert H
   refine ifn fun c5 H => ?_
   have c5b0 := decide_eq_true c5
   clear c5
   revert H
   refine ok1 fun t924 A6 H => ?_
   by_cases c7 : t924 < 0
   ·rw [if_pos c7] at H
    have c7b0 := decide_eq_true c7
    clear c7
    obtain rfl := Option.some.inj H
    have p923 : 0 ≤ (x5_1 : Int) := od
    have q923 : x5_1 < (l0.length : Int) := od
    obtain ⟨ad923, e923, hx923_0, hx923_1⟩ := at_T115 HR0.out x5_1 p923 q923
    cases e923
    replace hx923_0 := hcw hx923_0
    replace hx923_1 := hcw hx923_1
    replace p923 := eq_true p923
    replace q923 := eq_true q923
    go_wp2_with (first | (refine gl 23 Tryz.func87 #[.agg #[.string ((rd_T115 l0 x5_1).f0), .string ((rd_T115 l0 x5_1).f1)], .int .i64 x1_1] ?_; (with_reducible refine (laws_szField.calls ((rd_T115 l0 x5_1).f0) ((rd_T115 l0 x5_1).f1) x1_1 t924 _ A6.out).mono ?_); rintro e w8 ⟨rfl, hb⟩; refine ⟨_, rfl, ?_⟩; replace HB := am (below_step bl hb); clear hb))
    go_ret
    exact ⟨rf, bl⟩
   rw [if_neg c7] at H
   have c7b0 := decide_eq_false c7
   clear c7
   have H' := am H
   clear H
   have p923 : 0 ≤ (x5_1 : Int) := od
   have q923 : x5_1 < (l0.length : Int) := od
   obtain ⟨ad923, e923, hx923_0, hx923_1⟩ := at_T115 HR0.out x5_1 p923 q923
   cases e923
   replace hx923_0 := hcw hx923_0
   replace hx923_1 := hcw hx923_1
   replace p923 := eq_true p923
   replace q923 := eq_true q923
   go_wp2_with (first | (refine gl 23 Tryz.func87 #[.agg #[.string ((rd_T115 l0 x5_1).f0), .string ((rd_T115 l0 x5_1).f1)], .int .i64 x1_1] ?_; (with_reducible refine (laws_szField.calls ((rd_T115 l0 x5_1).f0) ((rd_T115 l0 x5_1).f1) x1_1 t924 _ A6.out).mono ?_); rintro e w9 ⟨rfl, hb⟩; refine ⟨_, rfl, ?_⟩; replace HB := am (below_step bl hb); clear hb))
   go_roundg k1
   case measure => have := HK1.out; omega
   case rel => exact ⟨(t924), (wrap64 (x5_1 + 1)), rs, rs, H', ⟨by have := HK1.out; omega⟩, ⟨u21HB⟩⟩

/-! ### laws_toField: function 88 -/
def laws_toField.f (a0_0 : ByteArray) (a0_1 : ByteArray) : Option (ByteArray × ByteArray) := some (a0_0, a0_1)
set_option maxHeartbeats 8000000 in
set_option maxRecDepth 100000 in
theorem laws_toField.calls (a0_0 : ByteArray) (a0_1 : ByteArray) (r1 : ByteArray) (r2 : ByteArray) (w : World) (h : laws_toField.f a0_0 a0_1 = some (r1, r2)) :
  Calls Tryz.prog 88 #[.agg #[.string a0_0, .string a0_1]] w fun e w' => e = .returned (.agg #[.string r1, .string r2]) ∧ Below w.heap.size w w' := by
 have hu115 := Tryz.underlying115
 have hu116 := Tryz.underlying116
 have HB := am (Below.refl w.heap.size w)
 unfold laws_toField.f at h
 have H := h
 clear h
 simp only [Option.some.injEq, Prod.mk.injEq] at H
 obtain ⟨rfl, rfl⟩ := H
 go_enter Tryz.func88, Tryz.ntmps88
 go_wp2_with (first | (refine bx 1 #[.string a0_0, .string a0_1] 115 ?_; intro gb954 hg w2 hbox hb; have BK954 := am (hbox); have GW954 := am (sz hg : w.heap.size ≤ gb954); have GE954 := am (sz hg : w.heap.size ≤ gb954); replace HB := am (below_step bl hb); clear hb hbox hg) | (refine bx 2 #[.string (⟨#[]⟩ : ByteArray), .string (⟨#[]⟩ : ByteArray)] 116 ?_; intro gb955 hg w3 hbox hb; have BK955 := am (hbox); have GW955 := am (sz hg : w.heap.size ≤ gb955); have GE955 := am (sz hg : w.heap.size ≤ gb955); replace HB := am (below_step bl hb); have NB954_955 := am (nl hg BK954 : gb954 ≠ gb955); have NB955_954 := am (ng hg BK954 : gb955 ≠ gb954); replace BK954 := kb BK954 hb; clear hb hbox hg) | (refine bx 3 #[.string (⟨#[]⟩ : ByteArray), .string (⟨#[]⟩ : ByteArray)] 116 ?_; intro gb956 hg w4 hbox hb; have BK956 := am (hbox); have GW956 := am (sz hg : w.heap.size ≤ gb956); have GE956 := am (sz hg : w.heap.size ≤ gb956); replace HB := am (below_step bl hb); have NB954_956 := am (nl hg BK954 : gb954 ≠ gb956); have NB956_954 := am (ng hg BK954 : gb956 ≠ gb954); replace BK954 := kb BK954 hb; have NB955_956 := am (nl hg BK955 : gb955 ≠ gb956); have NB956_955 := am (ng hg BK955 : gb956 ≠ gb955); replace BK955 := kb BK955 hb; clear hb hbox hg; have hnb5 := NB954_955.out; have hnc5 := NB955_954.out; have hnb6 := NB954_956.out; have hnc6 := NB956_954.out; obtain ⟨z7_0, y7_0, z7_1, y7_1⟩ := cl2 BK954; have hnb8 := NB956_955.out; have hnc8 := NB955_956.out; obtain ⟨z9_0, y9_0, z9_1, y9_1⟩ := cl2 BK956; obtain ⟨z10_0, y10_0, z10_1, y10_1⟩ := cl2 BK955))
 refine bodyPost_ret (results_cell_row rfl _ _ gb955 116 #[.string a0_0, .string a0_1] (0, 0) _ rfl (pt1 BK955 NB955_956) Tryz.underlying116 rfl (by kernel_rfl)) rfl ?_
 exact ⟨rf, bl⟩

/-! ### laws_toFieldS: function 23 -/
theorem u23HB {p : Prop} (h : p := by repeat (first | (with_reducible first | exact HB.out | apply below_alloc | apply pw_below_drewN | apply below_drew1) | exact HB.out)) : p := h
def laws_toFieldS.l0 : Nat → List (S115) → List (S116) → Int → Option ((List (S116)))
 | 0, _, _, _ => none
 | k + 1, x0, x3, x4 => if x4 < (x0.length : Int) then (if 0 ≤ x4 then ((laws_toField.f ((rd_T115 x0 x4).f0) ((rd_T115 x0 x4).f1)).bind fun bt961 => (if x4 < (x3.length : Int) then (laws_toFieldS.l0 k x0 (x3.set (x4 : Int).toNat (⟨bt961.1, bt961.2⟩ : S116)) (wrap64 (x4 + 1))) else (none))) else (none)) else (some x3)
def laws_toFieldS.f (k : Nat) (l0 : List (S115)) : Option ((List (S116))) := if 0 ≤ (l0.length : Int) then (if ((l0.length : Int) : Int).toNat ≤ 8796093022208 then (laws_toFieldS.l0 k l0 (List.replicate ((l0.length : Int) : Int).toNat z116) 0) else (none)) else (none)
theorem laws_toFieldS.mono_l : ∀ k, (∀ y0 y1 y2, LeO (laws_toFieldS.l0 k y0 y1 y2) (laws_toFieldS.l0 (k + 1) y0 y1 y2))
 | 0 => fun _ _ _ r h => by simp [laws_toFieldS.l0] at h
 | k + 1 => by
  have ih0 := laws_toFieldS.mono_l k
  ·intro y0 y1 y2
   unfold laws_toFieldS.l0
   exact mo
theorem laws_toFieldS.mono : ∀ a0 k, LeO (laws_toFieldS.f k a0) (laws_toFieldS.f (k + 1) a0) := by
 intro a0 k
 have ih0 := laws_toFieldS.mono_l k
 unfold laws_toFieldS.f
 exact mo
set_option maxHeartbeats 8000000 in
set_option maxRecDepth 100000 in
theorem laws_toFieldS.calls (k : Nat) (A0 : Option Addr) (c0 : Nat) (l0 : List (S115)) (r : List (S116)) (w : World) (hr0 : Kd.C k115 w A0 l0.length l0) (hc0 : l0.length ≤ c0) (h : laws_toFieldS.f k l0 = some r) :
  Calls Tryz.prog 23 #[.slice A0 l0.length c0] w fun e w' => ∃ v0_ : Value, e = .returned (v0_) ∧ Kd.R k116 116 w' w.heap.size (fun _ => True) v0_ r ∧ Below w.heap.size w w' := by
 have hu115 := Tryz.underlying115
 have hu116 := Tryz.underlying116
 have HR0 := am hr0
 have HC0 := am hc0
 clear hr0 hc0
 have HB := am (Below.refl w.heap.size w)
 unfold laws_toFieldS.f at h
 have H := h
 clear h
 revert H
 refine ifn fun c2 H => ?_
 have c2b0 := eq_true c2
 have c2b1 := decide_eq_true c2
 clear c2
 revert H
 refine ifn fun c3 H => ?_
 have c3b0 := eq_true c3
 have c3b1 := decide_eq_true c3
 clear c3
 obtain ⟨y957, hy957⟩ : ∃ y_ : List (S116), y_ = (List.replicate ((l0.length : Int) : Int).toNat z116) := ⟨_, rfl⟩
 replace H : (laws_toFieldS.l0 k l0 y957 0) = some r := by first | (rw [hy957]; with_reducible exact H) | (have H2_ := (Option.bind_some _ _).symm.trans H; rw [hy957]; with_reducible exact H2_) | (have H2_ := (Option.bind_some _ _).symm.trans H; with_reducible exact H2_) | with_reducible exact H | (rw [hy957]; exact H) | exact H
 have Ny957 := am hy957
 clear hy957
 have H' := am H
 clear H
 go_enter Tryz.func23, Tryz.ntmps23
 go_wp2_with (first | ((with_reducible refine gate_dst (N := 7) rfl ?_); refine Kd.R_make k116 _ 116 rfl (N := 7) rfl 27 _ _ rfl (l0.length : Int) rfl rfl Tryz.underlying27 (.agg #[(.string ⟨#[]⟩), (.string ⟨#[]⟩)]) 32 info116 rfl (by decide) (by omega) z116 (ok := fun _ => True) (okp := fun _ => True) (k116_mkM _ _ _ z116 ) (fun _ hk => hk) trivial (od) (Nat.le_trans (Nat.mul_le_mul_right _ (od : (l0.length : Int).toNat ≤ 8796093022208)) (by omega)) (Below.refl _ _) (Nat.le_refl _) ?_; intro v958 w4 ho5 hb hg_ hnew_; clear hg_ hnew_; (first | rw [← Ny957.out] at ho5 | (simp only [Int.reduceToNat] at ho5; rw [← Ny957.out] at ho5)); have HO959 := am (Kd.R_lower ho5 (below_size bl)); replace HB := am (below_step bl hb); clear hb ho5))
 (try simp only [Act.put, List.setIfInBounds_toArray, List.set_cons_zero, List.set_cons_succ])
 go_loopg [4] k (fun kq v4 w' => ∃ (x3_1 : List (S116)) (x4_1 : Int), v4 = .int .i64 x4_1 ∧ Aside0 (laws_toFieldS.l0 kq l0 x3_1 x4_1 = some r) ∧ Aside0 (kq ≤ k) ∧ Aside0 (Kd.R k116 116 w' w.heap.size (fun _ => True) v958 x3_1) ∧ Aside0 (Below w.heap.size w w'))
 case atStart => exact ⟨(y957), (0), rs, H', ⟨Nat.le_refl _⟩, ⟨by (with_reducible repeat (first | apply Kd.R_alloc | apply Kd.R_drewN | apply Kd.R_drew)); exact HO959.out⟩, ⟨u23HB⟩⟩
 case round =>
  clear H'
  try clear c2
  try clear c2b0
  try clear c2b1
  try clear p2
  try clear c3
  try clear c3b0
  try clear c3b1
  obtain ⟨x3_1, x4_1, rfl, HA, HK1, HO_3, HB⟩ := hrel
  cases gk with
  | zero => exact absurd HA.out (by simp [laws_toFieldS.l0])
  | succ k1 =>
   have H := HA.out
   clear HA
   simp only [laws_toFieldS.l0] at H
   by_cases c6 : x4_1 < (l0.length : Int)
   rotate_left
   ·rw [if_neg c6] at H
    have c6b0 := decide_eq_false c6
    clear c6
    obtain rfl := Option.some.inj H
    go_wp2
    go_ret
    exact ⟨_, rf, by (with_reducible repeat (first | apply Kd.R_alloc | apply Kd.R_drewN | apply Kd.R_drew)); exact HO_3.out, bl⟩
   rw [if_pos c6] at H
   have c6b0 := decide_eq_true c6
   clear c6
   revert H
   refine ifn fun c7 H => ?_
   have c7b0 := decide_eq_true c7
   clear c7
   revert H
   refine ok2 fun t961 t962 A8 H => ?_
   (try dsimp only at H)
   revert H
   refine ifn fun c9 H => ?_
   have c9b0 := decide_eq_true c9
   clear c9
   obtain ⟨y963, hy963⟩ : ∃ y_ : List (S116), y_ = (x3_1.set (x4_1 : Int).toNat (⟨t961, t962⟩ : S116)) := ⟨_, rfl⟩
   replace H : (laws_toFieldS.l0 k1 l0 y963 (wrap64 (x4_1 + 1))) = some r := by first | (rw [hy963]; with_reducible exact H) | (have H2_ := (Option.bind_some _ _).symm.trans H; rw [hy963]; with_reducible exact H2_) | (have H2_ := (Option.bind_some _ _).symm.trans H; with_reducible exact H2_) | with_reducible exact H | (rw [hy963]; exact H) | exact H
   have Ny963 := am hy963
   clear hy963
   have H' := am H
   clear H
   have p960 : 0 ≤ (x4_1 : Int) := od
   have q960 : x4_1 < (l0.length : Int) := od
   obtain ⟨ad960, e960, hx960_0, hx960_1⟩ := at_T115 HR0.out x4_1 p960 q960
   cases e960
   replace hx960_0 := hcw hx960_0
   replace hx960_1 := hcw hx960_1
   replace p960 := eq_true p960
   replace q960 := eq_true q960
   go_wp2_with (first | (refine gl 20 Tryz.func88 #[.agg #[.string ((rd_T115 l0 x4_1).f0), .string ((rd_T115 l0 x4_1).f1)]] ?_; (with_reducible refine (laws_toField.calls ((rd_T115 l0 x4_1).f0) ((rd_T115 l0 x4_1).f1) t961 t962 _ A8.out).mono ?_); rintro e w11 ⟨rfl, hb⟩; refine ⟨_, rfl, ?_⟩; replace HO_3 := kr HO_3 hb; replace HB := am (below_step bl hb); clear hb; have p10 : 0 ≤ (x4_1 : Int) := od; have q10 : (x4_1 : Int) < ((x3_1.length : Int) : Int) := od; obtain ⟨go10, co10, eo10, gb10, gl10, cl10, HG10⟩ := Kd.R_form HO_3.out (by omega); (first | cases eo10 | (injection eo10 with ea_ en_ ec_; (first | subst ea_ | (injection ea_ with ea_; subst ea_)); subst ec_; clear en_)); have GB10 := am gb10; have GG10 := am HG10; clear gb10 gl10 HG10; obtain ⟨ce10, hcl10, hM10, hcc10, hfr10⟩ := Kd.R_elem HO_3.out z116 (x4_1 : Int) p10 q10; obtain rfl := k116_openM hM10; have hx10_0 : w11.cell? ⟨go10, (x4_1 : Int).toNat * 2, none⟩ = some (.string ((rd_T116 x3_1 x4_1).f0)) := hcc10 0 _ rfl; have hx10_1 : w11.cell? ⟨go10, (x4_1 : Int).toNat * 2 + 1, none⟩ = some (.string ((rd_T116 x3_1 x4_1).f1)) := hcc10 1 _ rfl; have hf10_0 : w11.frozen? ⟨go10, (x4_1 : Int).toNat * 2, none⟩ = false := hfr10 0; have hf10_1 : w11.frozen? ⟨go10, (x4_1 : Int).toNat * 2 + 1, none⟩ = false := hfr10 1; clear hcl10 hcc10 hfr10 hM10; replace p10 := eq_true p10; replace q10 := eq_true q10; have HX12 := am (show Kd.R k116 116 w11 w.heap.size (fun _ => True) (.slice (some ⟨go10, 0, none⟩) x3_1.length co10) x3_1 from (ro HO_3)); obtain ⟨ce12, hcl12, hM12, hcc12, hfr12⟩ := Kd.R_elem HX12.out z116 (x4_1 : Int) (od) (by have h_ : (x4_1 : Int) < ((x3_1.length : Int) : Int) := od; first | exact h_ | (have e_ := (Kd.R_reads' HO_3.out).1; omega) | simpa using h_); obtain rfl := k116_openM hM12; have HP12 := Kd.R_seg HX12.out (x4_1 : Int) (od) (by have h_ : (x4_1 : Int) < ((x3_1.length : Int) : Int) := od; first | exact h_ | (have e_ := (Kd.R_reads' HO_3.out).1; omega) | simpa using h_) (seg := [.string t961, .string t962]) (j := 0) hcl12 hcc12 (show 2 ≤ 2 from by decide) (x' := (⟨t961, t962⟩ : S116)) (k116_mkM _ _ _ (⟨t961, t962⟩ : S116) ) (fun _ hk => hk); have hx12_0 := hcc12 0 _ rfl; (try simp only [show (k116).sz = 2 from rfl, Nat.mul_one, Nat.add_zero] at hx12_0); have hf12_0 := hfr12 0; (try simp only [show (k116).sz = 2 from rfl, Nat.mul_one, Nat.add_zero] at hf12_0); have hx12_1 := hcc12 1 _ rfl; (try simp only [show (k116).sz = 2 from rfl, Nat.mul_one, Nat.add_zero] at hx12_1); have hf12_1 := hfr12 1; (try simp only [show (k116).sz = 2 from rfl, Nat.mul_one, Nat.add_zero] at hf12_1); clear hcl12 hcc12 hfr12 hM12) | ((with_reducible refine gate_store (t := 116) (p := 21) rfl ?_); refine store_event (t := 116) (p := 21) (v := ?vo_w13) (w1 := ((w11.setCell ⟨go10, (x4_1 : Int).toNat * 2, none⟩ (.string t961)).setCell ⟨go10, (x4_1 : Int).toNat * 2 + 1, none⟩ (.string t962))) ?hg ?ho ?hn ?hr ?_; (case ho => rfl); (case hg => rfl); (case hn => rfl); (case hr => first | (go_simp; done) | (go_simp; rfl)); intro w13 hw; have hg : w11.grownBy w13 (some go10) := (by rw [hw]; exact HP12.2); have hp_ : Kd.R k116 116 w13 w.heap.size (fun _ => True) (.slice (some ⟨go10, 0, none⟩) x3_1.length co10) y963 := (by rw [hw, Ny963.out]; exact HP12.1); clear HP12; have n0_ := am (hp_); have n1_ := am ((by rw [hw]; exact below_set (below_set (HB.out) GB10.out) GB10.out : Below w.heap.size w w13)); clear HO_3; clear HB; have HO_3 := n0_; have HB := n1_; clear n0_ n1_; clear hg hw hp_))
   go_roundg k1
   case measure => have := HK1.out; omega
   case rel => exact ⟨(y963), (wrap64 (x4_1 + 1)), rs, H', ⟨by have := HK1.out; omega⟩, ⟨by (with_reducible repeat (first | apply Kd.R_alloc | apply Kd.R_drewN | apply Kd.R_drew)); exact HO_3.out⟩, ⟨u23HB⟩⟩

/-! ### laws_eqField: function 89 -/
def laws_eqField.f (a0_0 : ByteArray) (a0_1 : ByteArray) (a1_0 : ByteArray) (a1_1 : ByteArray) : Option (Bool) := if a0_0.toList = a1_0.toList then (if a0_1.toList = a1_1.toList then (some true) else (some false)) else (some false)
set_option maxHeartbeats 8000000 in
set_option maxRecDepth 100000 in
theorem laws_eqField.calls (a0_0 : ByteArray) (a0_1 : ByteArray) (a1_0 : ByteArray) (a1_1 : ByteArray) (r : Bool) (w : World) (h : laws_eqField.f a0_0 a0_1 a1_0 a1_1 = some r) :
  Calls Tryz.prog 89 #[.agg #[.string a0_0, .string a0_1], .agg #[.string a1_0, .string a1_1]] w fun e w' => e = .returned (.bool r) ∧ Below w.heap.size w w' := by
 have hu116 := Tryz.underlying116
 have HB := am (Below.refl w.heap.size w)
 unfold laws_eqField.f at h
 have H := h
 clear h
 by_cases c3 : a0_0.toList = a1_0.toList
 rotate_left
 ·rw [if_neg c3] at H
  have c3b0 : (a0_0.toList == a1_0.toList) = false := beq_eq_false_iff_ne.mpr c3
  have c3b1 : (a0_0.toList != a1_0.toList) = true := bne_iff_ne.mpr c3
  obtain rfl := Option.some.inj H
  go_enter Tryz.func89, Tryz.ntmps89
  go_wp2_with (first | (refine bx 2 #[.string a0_0, .string a0_1] 116 ?_; intro gb1008 hg w15 hbox hb; have BK1008 := am (hbox); have GW1008 := am (sz hg : w.heap.size ≤ gb1008); have GE1008 := am (sz hg : w.heap.size ≤ gb1008); replace HB := am (below_step bl hb); clear hb hbox hg) | (refine bx 3 #[.string a1_0, .string a1_1] 116 ?_; intro gb1009 hg w16 hbox hb; have BK1009 := am (hbox); have GW1009 := am (sz hg : w.heap.size ≤ gb1009); have GE1009 := am (sz hg : w.heap.size ≤ gb1009); replace HB := am (below_step bl hb); have NB1008_1009 := am (nl hg BK1008 : gb1008 ≠ gb1009); have NB1009_1008 := am (ng hg BK1008 : gb1009 ≠ gb1008); replace BK1008 := kb BK1008 hb; clear hb hbox hg; have hnb17 := NB1008_1009.out; have hnc17 := NB1009_1008.out; obtain ⟨z18_0, y18_0, z18_1, y18_1⟩ := cl2 BK1008; obtain ⟨z19_0, y19_0, z19_1, y19_1⟩ := cl2 BK1009))
  go_ret
  exact ⟨rf, bl⟩
 rw [if_pos c3] at H
 have c3b0 : (a0_0.toList == a1_0.toList) = true := beq_iff_eq.mpr c3
 have c3b1 : (a0_0.toList != a1_0.toList) = false := bne_eq_false_iff_eq.mpr c3
 clear c3
 by_cases c4 : a0_1.toList = a1_1.toList
 ·rw [if_pos c4] at H
  have c4b0 : (a0_1.toList == a1_1.toList) = true := beq_iff_eq.mpr c4
  have c4b1 : (a0_1.toList != a1_1.toList) = false := bne_eq_false_iff_eq.mpr c4
  clear c4
  obtain rfl := Option.some.inj H
  go_enter Tryz.func89, Tryz.ntmps89
  go_wp2_with (first | (refine bx 2 #[.string a0_0, .string a0_1] 116 ?_; intro gb1008 hg w5 hbox hb; have BK1008 := am (hbox); have GW1008 := am (sz hg : w.heap.size ≤ gb1008); have GE1008 := am (sz hg : w.heap.size ≤ gb1008); replace HB := am (below_step bl hb); clear hb hbox hg) | (refine bx 3 #[.string a1_0, .string a1_1] 116 ?_; intro gb1009 hg w6 hbox hb; have BK1009 := am (hbox); have GW1009 := am (sz hg : w.heap.size ≤ gb1009); have GE1009 := am (sz hg : w.heap.size ≤ gb1009); replace HB := am (below_step bl hb); have NB1008_1009 := am (nl hg BK1008 : gb1008 ≠ gb1009); have NB1009_1008 := am (ng hg BK1008 : gb1009 ≠ gb1008); replace BK1008 := kb BK1008 hb; clear hb hbox hg; have hnb7 := NB1008_1009.out; have hnc7 := NB1009_1008.out; obtain ⟨z8_0, y8_0, z8_1, y8_1⟩ := cl2 BK1008; obtain ⟨z9_0, y9_0, z9_1, y9_1⟩ := cl2 BK1009))
  go_ret
  exact ⟨rf, bl⟩
 rw [if_neg c4] at H
 have c4b0 : (a0_1.toList == a1_1.toList) = false := beq_eq_false_iff_ne.mpr c4
 have c4b1 : (a0_1.toList != a1_1.toList) = true := bne_iff_ne.mpr c4
 obtain rfl := Option.some.inj H
 go_enter Tryz.func89, Tryz.ntmps89
 go_wp2_with (first | (refine bx 2 #[.string a0_0, .string a0_1] 116 ?_; intro gb1008 hg w10 hbox hb; have BK1008 := am (hbox); have GW1008 := am (sz hg : w.heap.size ≤ gb1008); have GE1008 := am (sz hg : w.heap.size ≤ gb1008); replace HB := am (below_step bl hb); clear hb hbox hg) | (refine bx 3 #[.string a1_0, .string a1_1] 116 ?_; intro gb1009 hg w11 hbox hb; have BK1009 := am (hbox); have GW1009 := am (sz hg : w.heap.size ≤ gb1009); have GE1009 := am (sz hg : w.heap.size ≤ gb1009); replace HB := am (below_step bl hb); have NB1008_1009 := am (nl hg BK1008 : gb1008 ≠ gb1009); have NB1009_1008 := am (ng hg BK1008 : gb1009 ≠ gb1008); replace BK1008 := kb BK1008 hb; clear hb hbox hg; have hnb12 := NB1008_1009.out; have hnc12 := NB1009_1008.out; obtain ⟨z13_0, y13_0, z13_1, y13_1⟩ := cl2 BK1008; obtain ⟨z14_0, y14_0, z14_1, y14_1⟩ := cl2 BK1009))
 go_ret
 exact ⟨rf, bl⟩

/-! ### laws_eqFieldS: function 25 -/
theorem u25HB {p : Prop} (h : p := by repeat (first | (with_reducible first | exact HB.out | apply below_alloc | apply pw_below_drewN | apply below_drew1) | exact HB.out)) : p := h
def laws_eqFieldS.l0 : Nat → List (S116) → List (S116) → Int → Option (Bool)
 | 0, _, _, _ => none
 | k + 1, x0, x1, x5 => if x5 < (x0.length : Int) then (if 0 ≤ x5 then (if x5 < (x1.length : Int) then ((laws_eqField.f ((rd_T116 x0 x5).f0) ((rd_T116 x0 x5).f1) ((rd_T116 x1 x5).f0) ((rd_T116 x1 x5).f1)).bind fun t1012 => (if t1012 = true then (laws_eqFieldS.l0 k x0 x1 (wrap64 (x5 + 1))) else (some false))) else (none)) else (none)) else (some true)
def laws_eqFieldS.f (k : Nat) (l0 : List (S116)) (l1 : List (S116)) : Option (Bool) := if (l0.length : Int) = (l1.length : Int) then (laws_eqFieldS.l0 k l0 l1 0) else (some false)
theorem laws_eqFieldS.mono_l : ∀ k, (∀ y0 y1 y2, LeO (laws_eqFieldS.l0 k y0 y1 y2) (laws_eqFieldS.l0 (k + 1) y0 y1 y2))
 | 0 => fun _ _ _ r h => by simp [laws_eqFieldS.l0] at h
 | k + 1 => by
  have ih0 := laws_eqFieldS.mono_l k
  ·intro y0 y1 y2
   unfold laws_eqFieldS.l0
   exact mo
theorem laws_eqFieldS.mono : ∀ a0 a1 k, LeO (laws_eqFieldS.f k a0 a1) (laws_eqFieldS.f (k + 1) a0 a1) := by
 intro a0 a1 k
 have ih0 := laws_eqFieldS.mono_l k
 unfold laws_eqFieldS.f
 exact mo
def laws_eqFieldS.T6 : Bool × List (List Nat × List Nat) := (true, [([], []), ([], []), ([0, 1], [0, 1]), ([2], [2]), ([], []), ([], []), ([4, 5], [4, 5]), ([6], [6]), ([3, 7], [3, 7]), ([8], [8])])
def laws_eqFieldS.B6 : List Nat := [0, 0, 3, 7, 0, 0, 48, 112, 255, 511]
theorem laws_eqFieldS.tab6 : rtab .any (opsOf Tryz.f25 6) = laws_eqFieldS.T6 := by kernel_rfl
theorem laws_eqFieldS.bits6 : waitsOk laws_eqFieldS.T6.2 laws_eqFieldS.B6 = true := by kernel_rfl
set_option maxHeartbeats 8000000 in
set_option maxRecDepth 100000 in
theorem laws_eqFieldS.calls (k : Nat) (A0 : Option Addr) (c0 : Nat) (l0 : List (S116)) (A1 : Option Addr) (c1 : Nat) (l1 : List (S116)) (r : Bool) (w : World) (hr0 : Kd.C k116 w A0 l0.length l0) (hc0 : l0.length ≤ c0) (hr1 : Kd.C k116 w A1 l1.length l1) (hc1 : l1.length ≤ c1) (h : laws_eqFieldS.f k l0 l1 = some r) :
  Calls Tryz.prog 25 #[.slice A0 l0.length c0, .slice A1 l1.length c1] w fun e w' => e = .returned (.bool r) ∧ Below w.heap.size w w' := by
 have hu116 := Tryz.underlying116
 have HR0 := am hr0
 have HC0 := am hc0
 clear hr0 hc0
 have HR1 := am hr1
 have HC1 := am hc1
 clear hr1 hc1
 have HB := am (Below.refl w.heap.size w)
 unfold laws_eqFieldS.f at h
 have H := h
 clear h
 by_cases c3 : (l0.length : Int) = (l1.length : Int)
 rotate_left
 ·rw [if_neg c3] at H
  have c3b0 : ((l0.length : Int) == (l1.length : Int)) = false := beq_eq_false_iff_ne.mpr c3
  have c3b1 : ((l0.length : Int) != (l1.length : Int)) = true := bne_iff_ne.mpr c3
  have c3b2 : (l0.length == l1.length) = false := by first | simpa using c3 | (simp at c3 ⊢; omega)
  obtain rfl := Option.some.inj H
  go_enter Tryz.func25, Tryz.ntmps25
  go_wp2
  go_ret
  exact ⟨rf, bl⟩
 rw [if_pos c3] at H
 have c3b0 : ((l0.length : Int) == (l1.length : Int)) = true := beq_iff_eq.mpr c3
 have c3b1 : ((l0.length : Int) != (l1.length : Int)) = false := bne_eq_false_iff_eq.mpr c3
 have c3b2 : (l0.length == l1.length) = true := by first | simpa using c3 | (simp at c3 ⊢; omega)
 clear c3
 have H' := am H
 clear H
 go_enter Tryz.func25, Tryz.ntmps25
 go_wp2
 (try simp only [Act.put, List.setIfInBounds_toArray, List.set_cons_zero, List.set_cons_succ])
 go_loopg [5] k (fun kq v5 w' => ∃ (x5_1 : Int), v5 = .int .i64 x5_1 ∧ Aside0 (laws_eqFieldS.l0 kq l0 l1 x5_1 = some r) ∧ Aside0 (kq ≤ k) ∧ Aside0 (Below w.heap.size w w'))
 case atStart => exact ⟨(0), rs, H', ⟨Nat.le_refl _⟩, ⟨u25HB⟩⟩
 case round =>
  clear H'
  try clear c1
  try clear c2
  try clear p2
  try clear c3
  try clear c3b0
  try clear c3b1
  try clear c3b2
  obtain ⟨x5_1, rfl, HA, HK1, HB⟩ := hrel
  cases gk with
  | zero => exact absurd HA.out (by simp [laws_eqFieldS.l0])
  | succ k1 =>
   have H := HA.out
   clear HA
   simp only [laws_eqFieldS.l0] at H
   by_cases c4 : x5_1 < (l0.length : Int)
   rotate_left
   ·rw [if_neg c4] at H
    have c4b0 := decide_eq_false c4
    clear c4
    obtain rfl := Option.some.inj H
    go_wp2
    go_ret
    exact ⟨rf, bl⟩
   rw [if_pos c4] at H
   have c4b0 := decide_eq_true c4
   clear c4
   revert H
   refine ifn fun c5 H => ?_
   have c5b0 := decide_eq_true c5
   clear c5
   revert H
   refine ifn fun c6 H => ?_
   have c6b0 := decide_eq_true c6
   clear c6
   revert H
   refine ok1 fun t1012 A7 H => ?_
   by_cases c8 : t1012 = true
   rotate_left
   ·replace c8 := Bool.eq_false_iff.mpr c8
    subst c8
    rw [if_neg (show ¬ (false = true) by decide)] at H
    obtain rfl := Option.some.inj H
    try go_wp2
    replace HB := am (below_drew1 HB.out)
    have p1010 : 0 ≤ (x5_1 : Int) := od
    have q1010 : x5_1 < (l0.length : Int) := od
    obtain ⟨ad1010, e1010, hx1010_0, hx1010_1⟩ := at_T116 HR0.out x5_1 p1010 q1010
    have hw1010_1 := hx1010_1
    have hw1010_0 := hx1010_0
    cases e1010
    replace hx1010_0 := hcw hx1010_0
    replace hx1010_1 := hcw hx1010_1
    replace p1010 := eq_true p1010
    replace q1010 := eq_true q1010
    have p1011 : 0 ≤ (x5_1 : Int) := od
    have q1011 : x5_1 < (l1.length : Int) := od
    obtain ⟨ad1011, e1011, hx1011_0, hx1011_1⟩ := at_T116 HR1.out x5_1 p1011 q1011
    have hw1011_1 := hx1011_1
    have hw1011_0 := hx1011_0
    cases e1011
    replace hx1011_0 := hcw hx1011_0
    replace hx1011_1 := hcw hx1011_1
    replace p1011 := eq_true p1011
    replace q1011 := eq_true q1011
    refine start_ (n := 10) (S := fun w' => w'.cell? (ad1010.add ((x5_1).toNat * 2)) = some (.string ((rd_T116 l0 x5_1).f0)) ∧ w'.cell? ⟨(ad1010.add ((x5_1).toNat * 2)).block, (ad1010.add ((x5_1).toNat * 2)).off + 1, none⟩ = some (.string ((rd_T116 l0 x5_1).f1)) ∧ w'.cell? (ad1011.add ((x5_1).toNat * 2)) = some (.string ((rd_T116 l1 x5_1).f0)) ∧ w'.cell? ⟨(ad1011.add ((x5_1).toNat * 2)).block, (ad1011.add ((x5_1).toNat * 2)).off + 1, none⟩ = some (.string ((rd_T116 l1 x5_1).f1))) (ds := []) ⟨br true [0, 10]⟩ (by kernel_rfl) rfl (by kernel_rfl) ⟨(hcw hw1010_0), (hcw hw1010_1), (hcw hw1011_0), (hcw hw1011_1)⟩ (fun hHeld => ?_); refine with_tabW laws_eqFieldS.tab6 laws_eqFieldS.bits6 (fun HT_ HW_ => ?_)
    generalize wr.drew = w11 at HB hx1010_0 hx1010_1 hx1011_0 hx1011_1 hHeld ⊢
    refine pu 0 17 [1, 9] ?_
    refine pu 1 18 [2, 8] ?_
    refine pu 2 19 [3, 7] ?_
    refine pu 4 21 [3, 1, 1, 5] ?_
    refine pu 5 22 [3, 1, 2, 4] ?_
    refine pu 6 23 [3, 1, 3, 3] ?_
    refine tk 3 20 [7, 3] ?_
    refine tk 7 24 [8, 2] ?_
    refine og 8 25 [9, 1] Tryz.func89 #[.agg #[.string ((rd_T116 l0 x5_1).f0), .string ((rd_T116 l0 x5_1).f1)], .agg #[.string ((rd_T116 l1 x5_1).f0), .string ((rd_T116 l1 x5_1).f1)]] (fun K hK => ?_)
    with_reducible refine (laws_eqField.calls ((rd_T116 l0 x5_1).f0) ((rd_T116 l0 x5_1).f1) ((rd_T116 l1 x5_1).f0) ((rd_T116 l1 x5_1).f1) false _ A7.out).mono ?_
    rintro e w12 ⟨rfl, hb⟩
    refine ⟨_, rfl, ?_⟩
    replace HB := am (below_step bl hb)
    clear hb
    refine hK.out _ _ ⟨(hcw hw1010_0), (hcw hw1010_1), (hcw hw1011_0), (hcw hw1011_1)⟩ (fun hHeld => ?_)
    clear hK K
    refine nm 25 ?_
    refine pu 9 26 [10] ?_
    refine done_ (done_of HT_.out (by kernel_rfl)) ?_
    try go_wp2
    go_ret
    exact ⟨rf, bl⟩
   subst c8
   rw [if_pos rfl] at H
   have H' := am H
   clear H
   try go_wp2
   replace HB := am (below_drew1 HB.out)
   have p1010 : 0 ≤ (x5_1 : Int) := od
   have q1010 : x5_1 < (l0.length : Int) := od
   obtain ⟨ad1010, e1010, hx1010_0, hx1010_1⟩ := at_T116 HR0.out x5_1 p1010 q1010
   have hw1010_1 := hx1010_1
   have hw1010_0 := hx1010_0
   cases e1010
   replace hx1010_0 := hcw hx1010_0
   replace hx1010_1 := hcw hx1010_1
   replace p1010 := eq_true p1010
   replace q1010 := eq_true q1010
   have p1011 : 0 ≤ (x5_1 : Int) := od
   have q1011 : x5_1 < (l1.length : Int) := od
   obtain ⟨ad1011, e1011, hx1011_0, hx1011_1⟩ := at_T116 HR1.out x5_1 p1011 q1011
   have hw1011_1 := hx1011_1
   have hw1011_0 := hx1011_0
   cases e1011
   replace hx1011_0 := hcw hx1011_0
   replace hx1011_1 := hcw hx1011_1
   replace p1011 := eq_true p1011
   replace q1011 := eq_true q1011
   refine start_ (n := 10) (S := fun w' => w'.cell? (ad1010.add ((x5_1).toNat * 2)) = some (.string ((rd_T116 l0 x5_1).f0)) ∧ w'.cell? ⟨(ad1010.add ((x5_1).toNat * 2)).block, (ad1010.add ((x5_1).toNat * 2)).off + 1, none⟩ = some (.string ((rd_T116 l0 x5_1).f1)) ∧ w'.cell? (ad1011.add ((x5_1).toNat * 2)) = some (.string ((rd_T116 l1 x5_1).f0)) ∧ w'.cell? ⟨(ad1011.add ((x5_1).toNat * 2)).block, (ad1011.add ((x5_1).toNat * 2)).off + 1, none⟩ = some (.string ((rd_T116 l1 x5_1).f1))) (ds := []) ⟨br true [0, 10]⟩ (by kernel_rfl) rfl (by kernel_rfl) ⟨(hcw hw1010_0), (hcw hw1010_1), (hcw hw1011_0), (hcw hw1011_1)⟩ (fun hHeld => ?_); refine with_tabW laws_eqFieldS.tab6 laws_eqFieldS.bits6 (fun HT_ HW_ => ?_)
   generalize wr.drew = w9 at HB hx1010_0 hx1010_1 hx1011_0 hx1011_1 hHeld ⊢
   refine pu 0 17 [1, 9] ?_
   refine pu 1 18 [2, 8] ?_
   refine pu 2 19 [3, 7] ?_
   refine pu 4 21 [3, 1, 1, 5] ?_
   refine pu 5 22 [3, 1, 2, 4] ?_
   refine pu 6 23 [3, 1, 3, 3] ?_
   refine tk 3 20 [7, 3] ?_
   refine tk 7 24 [8, 2] ?_
   refine og 8 25 [9, 1] Tryz.func89 #[.agg #[.string ((rd_T116 l0 x5_1).f0), .string ((rd_T116 l0 x5_1).f1)], .agg #[.string ((rd_T116 l1 x5_1).f0), .string ((rd_T116 l1 x5_1).f1)]] (fun K hK => ?_)
   with_reducible refine (laws_eqField.calls ((rd_T116 l0 x5_1).f0) ((rd_T116 l0 x5_1).f1) ((rd_T116 l1 x5_1).f0) ((rd_T116 l1 x5_1).f1) true _ A7.out).mono ?_
   rintro e w10 ⟨rfl, hb⟩
   refine ⟨_, rfl, ?_⟩
   replace HB := am (below_step bl hb)
   clear hb
   refine hK.out _ _ ⟨(hcw hw1010_0), (hcw hw1010_1), (hcw hw1011_0), (hcw hw1011_1)⟩ (fun hHeld => ?_)
   clear hK K
   refine nm 25 ?_
   refine pu 9 26 [10] ?_
   refine done_ (done_of HT_.out (by kernel_rfl)) ?_
   try go_wp2
   go_roundg k1
   case measure => have := HK1.out; omega
   case rel => exact ⟨(wrap64 (x5_1 + 1)), rs, H', ⟨by have := HK1.out; omega⟩, ⟨u25HB⟩⟩

end Go.Proofs.YtdbgkookjpgnnaaGreatDoor.All
