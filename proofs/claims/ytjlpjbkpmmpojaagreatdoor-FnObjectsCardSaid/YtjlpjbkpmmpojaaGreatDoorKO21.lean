import Derived.Test.YtjlpjbkpmmpojaaGreatDoorKO12
namespace Go.Proofs.YtjlpjbkpmmpojaaGreatDoor.All
open Go.RowKit Go.Proofs.YtjlpjbkpmmpojaaGreatDoorW.PrintWords Go.Proofs.YtjlpjbkpmmpojaaGreatDoorW.PrintLast Go.Proofs.YtjlpjbkpmmpojaaGreatDoorW.PrintMore
set_option maxHeartbeats 8000000
set_option maxRecDepth 100000
attribute [local go_sem] min2_int min_two
set_option linter.unusedVariables false
set_option linter.unusedSimpArgs false
def spec_l6Age.f (k : Nat) (a0 : ByteArray) : Option (Int × Bool) := if (a0.size : Int) < 8 then (some (0, false)) else (if 0 ≤ 8 then (if 8 ≤ (a0.size : Int) then (if (a0.extract 0 8).toList = ([109, 97, 120, 45, 97, 103, 101, 61] : List UInt8) then ((spec_NumRead.f k (a0.extract 8 a0.size)).bind fun bt9 => (some (bt9.1, true))) else (some (0, false))) else (none)) else (none))
theorem spec_l6Age.calls (k : Nat) (a0 : ByteArray) (r1 : Int) (r2 : Bool) (w : World) (h : spec_l6Age.f k a0 = some (r1, r2)) :
  Calls Tryz.prog 88 #[.string a0] w fun e w' => e = .returned (.tuple #[.int .i64 r1, .bool r2]) ∧ Below w.heap.size w w' := by
 have HB := am (Below.refl w.heap.size w)
 unfold spec_l6Age.f at h
 have H := h
 clear h
 by_cases c2 : (a0.size : Int) < 8
 ·rw [if_pos c2] at H
  have c2b0 := decide_eq_true c2
  have c2b1 : decide (a0.size < 8) = true := decide_eq_true (by omega)
  clear c2
  simp only [Option.some.injEq, Prod.mk.injEq] at H
  obtain ⟨rfl, rfl⟩ := H
  go_enter Tryz.func88, Tryz.ntmps88
  go_wp2
  go_ret2
  exact ⟨rf, bl⟩
 rw [if_neg c2] at H
 have c2b0 := decide_eq_false c2
 have c2b1 : decide (a0.size < 8) = false := decide_eq_false (by omega)
 clear c2
 revert H
 refine ifn fun c3 H => ?_
 have c3b0 := eq_true c3
 have c3b1 := decide_eq_true c3
 clear c3
 revert H
 refine ifn fun c4 H => ?_
 have c4b0 := eq_true c4
 have c4b1 := decide_eq_true c4
 clear c4
 by_cases c5 : (a0.extract 0 8).toList = ([109, 97, 120, 45, 97, 103, 101, 61] : List UInt8)
 rotate_left
 ·rw [if_neg c5] at H
  have c5b0 := eqf c5
  have c5b1 := net c5
  simp only [Option.some.injEq, Prod.mk.injEq] at H
  obtain ⟨rfl, rfl⟩ := H
  go_enter Tryz.func88, Tryz.ntmps88
  go_wp2
  go_ret2
  exact ⟨rf, bl⟩
 rw [if_pos c5] at H
 have c5b0 := eqt c5
 have c5b1 := nef c5
 clear c5
 have c6b0 := eq_true (od : 8 ≤ (a0.size : Int))
 revert H
 refine ok2 fun t9 t10 A7 H => ?_
 (try dsimp only at H)
 simp only [Option.some.injEq, Prod.mk.injEq] at H
 obtain ⟨rfl, rfl⟩ := H
 go_enter Tryz.func88, Tryz.ntmps88
 go_wp2_with ((with_reducible refine gw ?_); first | (refine gl 25 Tryz.func106 #[.string (a0.extract 8 a0.size)] ?_; (with_reducible refine (spec_NumRead.calls k (a0.extract 8 a0.size) t9 t10 _ A7.out).mono ?_); rintro e w8 ⟨rfl, hb⟩; refine ⟨_, rfl, ?_⟩; replace HB := am (below_step bl hb); clear hb))
 go_ret2
 exact ⟨rf, bl⟩
def spec_l1Min.f (a0 : Int) (a1 : Int) : Option (Int) := if a0 < a1 then (some a0) else (some a1)
theorem spec_l1Min.calls (a0 : Int) (a1 : Int) (r : Int) (w : World) (h : spec_l1Min.f a0 a1 = some r) :
  Calls Tryz.prog 89 #[.int .i64 a0, .int .i64 a1] w fun e w' => e = .returned (.int .i64 r) ∧ Drawn0 w w' := by
 unfold spec_l1Min.f at h
 have H := h
 clear h
 by_cases c3 : a0 < a1
 ·rw [if_pos c3] at H
  have c3b0 := decide_eq_true c3
  clear c3
  obtain rfl := si_ H
  go_enter Tryz.func89, Tryz.ntmps89
  go_wp2
  go_ret
  exact ⟨rs, dr⟩
 rw [if_neg c3] at H
 have c3b0 := decide_eq_false c3
 clear c3
 obtain rfl := si_ H
 go_enter Tryz.func89, Tryz.ntmps89
 go_wp2
 go_ret
 exact ⟨rs, dr⟩
theorem u25HB {p : Prop} (h : p := by repeat (first | (with_reducible first | exact HB.out | apply below_alloc | apply pw_below_drewN | apply below_drew1 | refine below_set ?_ GE21.out | refine below_set ?_ GE18.out) | exact HB.out)) : p := h
mutual
def spec_CcRead.l0 : Nat → List ByteArray → Int → Bool → Bool → Bool → Bool → Bool → Int → Option (Bool × Bool × Bool × Bool × Bool × Int)
 | 0, _, _, _, _, _, _, _, _ => none
 | k + 1, x4, x5, x35, x38, x41, x43, x24, x31 => if x5 < (x4.length : Int) then (if 0 ≤ x5 then ((spec_Lower.f k (rdOf ByteArray.empty x4 x5)).bind fun t47 => ((spec_l6Age.f k t47).bind fun bt48 => (if t47.toList = ([110, 111, 45, 115, 116, 111, 114, 101] : List UInt8) then (spec_CcRead.l0 k x4 (wrap64 (x5 + 1)) true x38 x41 x43 x24 x31) else (if t47.toList = ([110, 111, 45, 99, 97, 99, 104, 101] : List UInt8) then (spec_CcRead.l0 k x4 (wrap64 (x5 + 1)) x35 true x41 x43 x24 x31) else (if t47.toList = ([112, 114, 105, 118, 97, 116, 101] : List UInt8) then (spec_CcRead.l0 k x4 (wrap64 (x5 + 1)) x35 x38 true x43 x24 x31) else (if t47.toList = ([109, 117, 115, 116, 45, 114, 101, 118, 97, 108, 105, 100, 97, 116, 101] : List UInt8) then (spec_CcRead.l0 k x4 (wrap64 (x5 + 1)) x35 x38 x41 true x24 x31) else (if bt48.2 = true then (spec_CcRead.j1 k x4 x5 bt48.1 bt48.2 x24 x35 x38 x41 x43 x24 x31) else (spec_CcRead.j1 k x4 x5 bt48.1 bt48.2 false x35 x38 x41 x43 x24 x31)))))))) else (none)) else (some (x35, x38, x41, x43, x24, x31))
def spec_CcRead.j1 : Nat → List ByteArray → Int → Int → Bool → Bool → Bool → Bool → Bool → Bool → Bool → Int → Option (Bool × Bool × Bool × Bool × Bool × Int)
 | 0, _, _, _, _, _, _, _, _, _, _, _ => none
 | k + 1, x4, x5, x7, x8, x44, x35, x38, x41, x43, x24, x31 => if x44 = true then ((spec_l1Min.f x31 x7).bind fun t49 => (spec_CcRead.l0 k x4 (wrap64 (x5 + 1)) x35 x38 x41 x43 x24 t49)) else (if x8 = true then (spec_CcRead.l0 k x4 (wrap64 (x5 + 1)) x35 x38 x41 x43 true x7) else (spec_CcRead.l0 k x4 (wrap64 (x5 + 1)) x35 x38 x41 x43 x24 x31))
end
def spec_CcRead.f (k : Nat) (a0 : ByteArray) : Option (Bool × Bool × Bool × Bool × Bool × Int) := (spec_Split.f k a0).bind fun t46 => (spec_CcRead.l0 k t46 0 false false false false false 0)
theorem spec_CcRead.calls (k : Nat) (a0 : ByteArray) (r1 : Bool) (r2 : Bool) (r3 : Bool) (r4 : Bool) (r5 : Bool) (r6 : Int) (w : World) (h : spec_CcRead.f k a0 = some (r1, r2, r3, r4, r5, r6)) :
  Calls Tryz.prog 25 #[.string a0] w fun e w' => e = .returned (.agg #[.bool r1, .bool r2, .bool r3, .bool r4, .bool r5, .int .i64 r6]) ∧ Below w.heap.size w w' := by
 have hu42 := Tryz.underlying42
 have HB := am (Below.refl w.heap.size w)
 unfold spec_CcRead.f at h
 have H := h
 clear h
 revert H
 refine ok1 fun t46 A2 H => ?_
 have H' := am H
 clear H
 go_enter Tryz.func25, Tryz.ntmps25
 go_wp2_with ((with_reducible refine gw ?_); first | (refine bx 2 #[.bool false, .bool false, .bool false, .bool false, .bool false, .int .i64 0] 42 ?_; intro gb21 hg w3 hbox hb; have BK21 := am (hbox); have GW21 := am (sz hg : w.heap.size ≤ gb21); have GE21 := am (sz hg : w.heap.size ≤ gb21); replace HB := am (below_step bl hb); clear hb hbox hg) | (refine bx 3 #[.bool false, .bool false, .bool false, .bool false, .bool false, .int .i64 0] 42 ?_; intro gb18 hg w4 hbox hb; have BK18 := am (hbox); have GW18 := am (sz hg : w.heap.size ≤ gb18); have GE18 := am (sz hg : w.heap.size ≤ gb18); replace HB := am (below_step bl hb); have NB21_18 := am (nl hg BK21 : gb21 ≠ gb18); have NB18_21 := am (ng hg BK21 : gb18 ≠ gb21); replace BK21 := kb BK21 hb; clear hb hbox hg; have hnb5 := NB18_21.out; have hnc5 := NB21_18.out; obtain ⟨_, _, _, _, _, _, _, _, _, _, _, _⟩ := cl6 BK18) | (refine gl 11 Tryz.func86 #[.string a0] ?_; (with_reducible refine (spec_Split.calls k a0 t46 _ A2.out).mono ?_); rintro e w7 ⟨v51, rfl, ho0, hb⟩; refine ⟨_, rfl, ?_⟩; have HO52 := am (Kd.R_lower ho0 (below_size bl)); replace BK21 := kg1 BK21 NB21_18 hb; replace BK18 := am (blk_below (g := gb18) (o := .cells #[.bool false, .bool false, .bool false, .bool false, .bool false, .int .i64 0] 42 (0, 0)) (pt0 BK18) hb); replace HB := am (below_step bl hb); clear hb ho0))
 (try simp only [Act.put, List.setIfInBounds_toArray, List.set_cons_zero, List.set_cons_succ])
 go_loopg [5] k (fun kq v5 w' => ∃ (x5_1 : Int) (x35_1 : Bool) (x38_1 : Bool) (x41_1 : Bool) (x43_1 : Bool) (x24_1 : Bool) (x31_1 : Int), v5 = .int .i64 x5_1 ∧ Aside0 (spec_CcRead.l0 kq t46 x5_1 x35_1 x38_1 x41_1 x43_1 x24_1 x31_1 = some (r1, r2, r3, r4, r5, r6)) ∧ Aside0 (kq ≤ k) ∧ Aside0 (Kd.R Kd.string 9 w' w.heap.size (fun _ => True) v51 t46) ∧ Aside0 (w'.heap[gb21]? = some (.cells #[.bool false, .bool false, .bool false, .bool false, .bool false, .int .i64 0] 42 (0, 0))) ∧ Aside0 (w'.heap[gb18]? = some (.cells #[.bool x35_1, .bool x38_1, .bool x41_1, .bool x43_1, .bool x24_1, .int .i64 x31_1] 42 (0, 0))) ∧ Aside0 (Below w.heap.size w w'))
 case atStart => exact ⟨(0), (false), (false), (false), (false), (false), (0), rs, H', ⟨Nat.le_refl _⟩, ⟨ro HO52⟩, ⟨bk BK21⟩, ⟨bk BK18⟩, ⟨u25HB⟩⟩
 case round =>
  clear H'
  obtain ⟨x5_1, x35_1, x38_1, x41_1, x43_1, x24_1, x31_1, rfl, HA, HK1, HO_4, BK21, BK18, HB⟩ := hrel
  cases gk with
  | zero => exact absurd HA.out (by simp [spec_CcRead.l0])
  | succ k1 =>
   have H := HA.out
   clear HA
   simp only [spec_CcRead.l0] at H
   by_cases c8 : x5_1 < (t46.length : Int)
   rotate_left
   ·rw [if_neg c8] at H
    have c8b0 := decide_eq_false c8
    clear c8
    simp only [Option.some.injEq, Prod.mk.injEq] at H
    obtain ⟨rfl, rfl, rfl, rfl, rfl, rfl⟩ := H
    obtain ⟨Ao39, co39, eo39⟩ := Kd.R_slice HO_4.out
    subst eo39
    have hnb40 := NB18_21.out
    have hnc40 := NB21_18.out
    obtain ⟨_, _, _, _, _, _, _, _, _, _, _, _⟩ := cl6 BK18
    obtain ⟨_, _, _, _, _, _, _, _, _, _, _, _⟩ := cl6 BK21
    go_wp2
    refine bodyPost_ret (results_cell_row rfl _ _ gb21 42 #[.bool x35_1, .bool x38_1, .bool x41_1, .bool x43_1, .bool x24_1, .int .i64 x31_1] (0, 0) _ rfl (pt0 BK21) Tryz.underlying42 rfl (by kernel_rfl)) rfl ?_
    exact ⟨rf, bl⟩
   rw [if_pos c8] at H
   have c8b0 := decide_eq_true c8
   clear c8
   revert H
   refine ifn fun c9 H => ?_
   have c9b0 := decide_eq_true c9
   clear c9
   revert H
   refine ok1 fun t47 A10 H => ?_
   revert H
   refine ok2 fun t48 t50 A11 H => ?_
   (try dsimp only at H)
   have HH12 := am H
   clear H
   obtain ⟨Ao13, co13, eo13⟩ := Kd.R_slice HO_4.out
   subst eo13
   have p45 : 0 ≤ (x5_1 : Int) := od
   have q45 : x5_1 < (t46.length : Int) := od
   obtain ⟨ad45, e45, hx45_0⟩ := Kd.at_string (Kd.R_reads' HO_4.out).2.2 x5_1 p45 q45
   cases e45
   replace p45 := eq_true p45
   replace q45 := eq_true q45
   go_upto_if 28 with ((with_reducible refine gw ?_); first | (refine gl 22 Tryz.func87 #[.string (rdOf ByteArray.empty t46 x5_1)] ?_; (with_reducible refine (spec_Lower.calls k1 (rdOf ByteArray.empty t46 x5_1) t47 _ A10.out).mono ?_); rintro e w14 ⟨rfl, hb⟩; refine ⟨_, rfl, ?_⟩; replace HO_4 := kr HO_4 hb; replace BK21 := kb BK21 hb; replace BK18 := kb BK18 hb; replace HB := am (below_step bl hb); clear hb) | (refine gl 25 Tryz.func88 #[.string t47] ?_; (with_reducible refine (spec_l6Age.calls k1 t47 t48 t50 _ A11.out).mono ?_); rintro e w15 ⟨rfl, hb⟩; refine ⟨_, rfl, ?_⟩; replace HO_4 := kr HO_4 hb; replace BK21 := kb BK21 hb; replace BK18 := kb BK18 hb; replace HB := am (below_step bl hb); clear hb))
   have H := HH12.out
   clear HH12
   by_cases c16 : t47.toList = ([110, 111, 45, 115, 116, 111, 114, 101] : List UInt8)
   ·rw [if_pos c16] at H
    have c16b0 := eqt c16
    have c16b1 := nef c16
    clear c16
    (first | rw [c16b0] | (simp only [i64_w, i32_w]; rw [c16b0]) | skip)
    have H' := am H
    clear H
    have hnb17 := NB18_21.out
    have hnc17 := NB21_18.out
    obtain ⟨_, _, _, _, _, _, _, _, _, _, _, _⟩ := cl6 BK18
    go_wp2
    go_roundg k1
    case measure => have := HK1.out; omega
    case rel => exact ⟨(wrap64 (x5_1 + 1)), (true), (x38_1), (x41_1), (x43_1), (x24_1), (x31_1), rs, H', ⟨by have := HK1.out; omega⟩, ⟨rj (Kd.R_types HO_4.out BK18.out (by decide)) (fun _ hk => trivial)⟩, ⟨bg1 BK21 NB21_18⟩, ⟨pt0 BK18⟩, ⟨u25HB⟩⟩
   rw [if_neg c16] at H
   have c16b0 := eqf c16
   have c16b1 := net c16
   (first | rw [c16b0] | (simp only [i64_w, i32_w]; rw [c16b0]) | skip)
   by_cases c19 : t47.toList = ([110, 111, 45, 99, 97, 99, 104, 101] : List UInt8)
   ·rw [if_pos c19] at H
    have c19b0 := eqt c19
    have c19b1 := nef c19
    clear c19
    have H' := am H
    clear H
    have hnb20 := NB18_21.out
    have hnc20 := NB21_18.out
    obtain ⟨_, _, _, _, _, _, _, _, _, _, _, _⟩ := cl6 BK18
    go_wp2
    go_roundg k1
    case measure => have := HK1.out; omega
    case rel => exact ⟨(wrap64 (x5_1 + 1)), (x35_1), (true), (x41_1), (x43_1), (x24_1), (x31_1), rs, H', ⟨by have := HK1.out; omega⟩, ⟨rj (Kd.R_types HO_4.out BK18.out (by decide)) (fun _ hk => trivial)⟩, ⟨bg1 BK21 NB21_18⟩, ⟨pt0 BK18⟩, ⟨u25HB⟩⟩
   rw [if_neg c19] at H
   have c19b0 := eqf c19
   have c19b1 := net c19
   by_cases c22 : t47.toList = ([112, 114, 105, 118, 97, 116, 101] : List UInt8)
   ·rw [if_pos c22] at H
    have c22b0 := eqt c22
    have c22b1 := nef c22
    clear c22
    have H' := am H
    clear H
    have hnb23 := NB18_21.out
    have hnc23 := NB21_18.out
    obtain ⟨_, _, _, _, _, _, _, _, _, _, _, _⟩ := cl6 BK18
    go_wp2
    go_roundg k1
    case measure => have := HK1.out; omega
    case rel => exact ⟨(wrap64 (x5_1 + 1)), (x35_1), (x38_1), (true), (x43_1), (x24_1), (x31_1), rs, H', ⟨by have := HK1.out; omega⟩, ⟨rj (Kd.R_types HO_4.out BK18.out (by decide)) (fun _ hk => trivial)⟩, ⟨bg1 BK21 NB21_18⟩, ⟨pt0 BK18⟩, ⟨u25HB⟩⟩
   rw [if_neg c22] at H
   have c22b0 := eqf c22
   have c22b1 := net c22
   by_cases c25 : t47.toList = ([109, 117, 115, 116, 45, 114, 101, 118, 97, 108, 105, 100, 97, 116, 101] : List UInt8)
   ·rw [if_pos c25] at H
    have c25b0 := eqt c25
    have c25b1 := nef c25
    clear c25
    have H' := am H
    clear H
    have hnb26 := NB18_21.out
    have hnc26 := NB21_18.out
    obtain ⟨_, _, _, _, _, _, _, _, _, _, _, _⟩ := cl6 BK18
    go_wp2
    go_roundg k1
    case measure => have := HK1.out; omega
    case rel => exact ⟨(wrap64 (x5_1 + 1)), (x35_1), (x38_1), (x41_1), (true), (x24_1), (x31_1), rs, H', ⟨by have := HK1.out; omega⟩, ⟨rj (Kd.R_types HO_4.out BK18.out (by decide)) (fun _ hk => trivial)⟩, ⟨bg1 BK21 NB21_18⟩, ⟨pt0 BK18⟩, ⟨u25HB⟩⟩
   rw [if_neg c25] at H
   have c25b0 := eqf c25
   have c25b1 := net c25
   have HC28 := am H
   clear H
   go_upto_region 16 with (fail)
   go_cut [44] (fun v44 wc => ∃ (kq : Nat) (x44_27 : Bool), v44 = .bool x44_27 ∧ Aside0 (spec_CcRead.j1 kq t46 x5_1 t48 t50 x44_27 x35_1 x38_1 x41_1 x43_1 x24_1 x31_1 = some (r1, r2, r3, r4, r5, r6)) ∧ Aside0 (kq ≤ k1) ∧ Aside0 (Kd.R Kd.string 9 wc w.heap.size (fun _ => True) (.slice (some ad45) t46.length co13) t46) ∧ Aside0 (wc.heap[gb21]? = some (.cells #[.bool false, .bool false, .bool false, .bool false, .bool false, .int .i64 0] 42 (0, 0))) ∧ Aside0 (wc.heap[gb18]? = some (.cells #[.bool x35_1, .bool x38_1, .bool x41_1, .bool x43_1, .bool x24_1, .int .i64 x31_1] 42 (0, 0))) ∧ Aside0 (Below w.heap.size w wc))
   case first =>
    have H := HC28.out
    clear HC28
    by_cases c29 : t50 = true
    rotate_left
    ·replace c29 := nb_ c29
     subst c29
     rw [if_neg ff_] at H
     have H' := am H
     clear H
     go_wp2
     go_meet
     case rel => exact ⟨_, (false), rs, H', ⟨by have := HK1.out; first | omega | exact Nat.le_refl _⟩, ⟨ro HO_4⟩, ⟨bk BK21⟩, ⟨bk BK18⟩, ⟨u25HB⟩⟩
    subst c29
    rw [if_pos rfl] at H
    have H' := am H
    clear H
    have hnb30 := NB18_21.out
    have hnc30 := NB21_18.out
    obtain ⟨_, _, _, _, _, _, _, _, _, _, _, _⟩ := cl6 BK18
    go_wp2
    go_meet
    case rel => exact ⟨_, (x24_1), rs, H', ⟨by have := HK1.out; first | omega | exact Nat.le_refl _⟩, ⟨ro HO_4⟩, ⟨bk BK21⟩, ⟨bk BK18⟩, ⟨u25HB⟩⟩
   case rest =>
    clear HC28
    obtain ⟨kq, x44_27, rfl, HA, HJ27, HO_4, BK21, BK18, HB⟩ := hcut
    cases kq with
    | zero => exact absurd HA.out (by simp [spec_CcRead.j1])
    | succ kj27 =>
     have H := HA.out
     clear HA
     simp only [spec_CcRead.j1] at H
     by_cases c32 : x44_27 = true
     rotate_left
     ·replace c32 := nb_ c32
      subst c32
      rw [if_neg ff_] at H
      by_cases c36 : t50 = true
      rotate_left
      ·replace c36 := nb_ c36
       subst c36
       rw [if_neg ff_] at H
       have H' := am H
       clear H
       go_wp2
       go_roundg kj27
       case measure => have := HK1.out; have := HJ27.out; omega
       case rel => exact ⟨(wrap64 (x5_1 + 1)), (x35_1), (x38_1), (x41_1), (x43_1), (x24_1), (x31_1), rs, H', ⟨by have := HK1.out; have := HJ27.out; omega⟩, ⟨ro HO_4⟩, ⟨bk BK21⟩, ⟨bk BK18⟩, ⟨u25HB⟩⟩
      subst c36
      rw [if_pos rfl] at H
      have H' := am H
      clear H
      have hnb37 := NB18_21.out
      have hnc37 := NB21_18.out
      obtain ⟨_, _, _, _, _, _, _, _, _, _, _, _⟩ := cl6 BK18
      go_wp2
      go_roundg kj27
      case measure => have := HK1.out; have := HJ27.out; omega
      case rel => exact ⟨(wrap64 (x5_1 + 1)), (x35_1), (x38_1), (x41_1), (x43_1), (true), (t48), rs, H', ⟨by have := HK1.out; have := HJ27.out; omega⟩, ⟨rj (Kd.R_types HO_4.out BK18.out (by decide)) (fun _ hk => trivial)⟩, ⟨bg1 BK21 NB21_18⟩, ⟨pt0 BK18⟩, ⟨u25HB⟩⟩
     subst c32
     rw [if_pos rfl] at H
     revert H
     refine ok1 fun t49 A33 H => ?_
     have H' := am H
     clear H
     have hnb34 := NB18_21.out
     have hnc34 := NB21_18.out
     obtain ⟨_, _, _, _, _, _, _, _, _, _, _, _⟩ := cl6 BK18
     go_wp2_with ((with_reducible refine gw ?_); first | (refine gl 53 Tryz.func89 #[.int .i64 x31_1, .int .i64 t48] ?_; (with_reducible refine (spec_l1Min.calls x31_1 t48 t49 _ A33.out).mono ?_); rintro e w' ⟨rfl, ⟨nd, rfl⟩⟩; refine ⟨_, rfl, ?_⟩; (try (rw [drewN_self wc]; generalize hq_ : World.drewN wc _ = wc; have n0_ : Aside0 (Kd.R Kd.string 9 wc w.heap.size (fun _ => True) (.slice (some ad45) t46.length co13) t46) := ⟨by rw [← hq_]; exact (ro HO_4)⟩; have n1_ : Aside0 (wc.heap[gb21]? = some (.cells #[.bool false, .bool false, .bool false, .bool false, .bool false, .int .i64 0] 42 (0, 0))) := ⟨by rw [← hq_]; exact (bk BK21)⟩; have n2_ : Aside0 (wc.heap[gb18]? = some (.cells #[.bool x35_1, .bool x38_1, .bool x41_1, .bool x43_1, .bool x24_1, .int .i64 x31_1] 42 (0, 0))) := ⟨by rw [← hq_]; exact (bk BK18)⟩; have n3_ : Aside0 (Below w.heap.size w wc) := ⟨by rw [← hq_]; exact bl⟩; clear HO_4 BK21 BK18 HB hq_; have HO_4 := n0_; have BK21 := n1_; have BK18 := n2_; have HB := n3_; clear n0_ n1_ n2_ n3_; obtain ⟨_, _, _, _, _, _, _, _, _, _, _, _⟩ := cl6 BK18))))
     go_roundg kj27
     case measure => have := HK1.out; have := HJ27.out; omega
     case rel => exact ⟨(wrap64 (x5_1 + 1)), (x35_1), (x38_1), (x41_1), (x43_1), (x24_1), (t49), rs, H', ⟨by have := HK1.out; have := HJ27.out; omega⟩, ⟨rj (Kd.R_types HO_4.out BK18.out (by decide)) (fun _ hk => trivial)⟩, ⟨bg1 BK21 NB21_18⟩, ⟨pt0 BK18⟩, ⟨u25HB⟩⟩
def spec_CcOf.f (k : Nat) (l0 : List (S116)) : Option (Bool × Bool × Bool × Bool × Bool × Int) := (spec_Get.f k l0 (⟨#[99, 97, 99, 104, 101, 45, 99, 111, 110, 116, 114, 111, 108]⟩ : ByteArray)).bind fun bt9 => ((spec_CcRead.f k bt9.1).bind fun bt8 => (some (bt8.1, bt8.2.1, bt8.2.2.1, bt8.2.2.2.1, bt8.2.2.2.2.1, bt8.2.2.2.2.2)))
theorem spec_CcOf.calls (k : Nat) (A0 : Option Addr) (c0 : Nat) (l0 : List (S116)) (r1 : Bool) (r2 : Bool) (r3 : Bool) (r4 : Bool) (r5 : Bool) (r6 : Int) (w : World) (hr0 : Kd.C k116 w A0 l0.length l0) (hc0 : l0.length ≤ c0) (h : spec_CcOf.f k l0 = some (r1, r2, r3, r4, r5, r6)) :
  Calls Tryz.prog 27 #[.slice A0 l0.length c0] w fun e w' => e = .returned (.agg #[.bool r1, .bool r2, .bool r3, .bool r4, .bool r5, .int .i64 r6]) ∧ Below w.heap.size w w' := by
 have hu42 := Tryz.underlying42
 have HR0 := am hr0
 have HC0 := am hc0
 clear hr0 hc0
 have HB := am (Below.refl w.heap.size w)
 unfold spec_CcOf.f at h
 have H := h
 clear h
 revert H
 refine ok2 fun t9 t15 A2 H => ?_
 (try dsimp only at H)
 revert H
 refine ok6 fun t8 t10 t11 t12 t13 t14 A3 H => ?_
 (try dsimp only at H)
 simp only [Option.some.injEq, Prod.mk.injEq] at H
 obtain ⟨rfl, rfl, rfl, rfl, rfl, rfl⟩ := H
 go_enter Tryz.func27, Tryz.ntmps27
 go_wp2_with ((with_reducible refine gw ?_); first | (refine bx 2 #[.bool false, .bool false, .bool false, .bool false, .bool false, .int .i64 0] 42 ?_; intro gb7 hg w4 hbox hb; have BK7 := am (hbox); have GW7 := am (sz hg : w.heap.size ≤ gb7); have GE7 := am (sz hg : w.heap.size ≤ gb7); replace HB := am (below_step bl hb); clear hb hbox hg) | (refine gl 7 Tryz.func66 #[.slice A0 l0.length c0, .string (⟨#[99, 97, 99, 104, 101, 45, 99, 111, 110, 116, 114, 111, 108]⟩ : ByteArray)] ?_; refine (spec_Get.calls k _ _ l0 (⟨#[99, 97, 99, 104, 101, 45, 99, 111, 110, 116, 114, 111, 108]⟩ : ByteArray) t9 t15 _ (cb HR0) HC0.out A2.out).mono ?_; rintro e w' ⟨rfl, ⟨nd, rfl⟩⟩; refine ⟨_, rfl, ?_⟩; (try (rw [drewN_self w4]; generalize hq_ : World.drewN w4 _ = w4; have n0_ : Aside0 (w4.heap[gb7]? = some (.cells #[.bool false, .bool false, .bool false, .bool false, .bool false, .int .i64 0] 42 (0, 0))) := ⟨by rw [← hq_]; exact (bk BK7)⟩; have n1_ : Aside0 (Below w.heap.size w w4) := ⟨by rw [← hq_]; exact bl⟩; clear BK7 HB hq_; have BK7 := n0_; have HB := n1_; clear n0_ n1_))) | (refine gl 11 Tryz.func25 #[.string t9] ?_; (with_reducible refine (spec_CcRead.calls k t9 t8 t10 t11 t12 t13 t14 _ A3.out).mono ?_); rintro e w5 ⟨rfl, hb⟩; refine ⟨_, rfl, ?_⟩; replace BK7 := kb BK7 hb; replace HB := am (below_step bl hb); clear hb; obtain ⟨_, _, _, _, _, _, _, _, _, _, _, _⟩ := cl6 BK7))
 refine bodyPost_ret (results_cell_row rfl _ _ gb7 42 #[.bool t8, .bool t10, .bool t11, .bool t12, .bool t13, .int .i64 t14] (0, 0) _ rfl (pt0 BK7) Tryz.underlying42 rfl (by kernel_rfl)) rfl ?_
 exact ⟨rf, bl⟩
end Go.Proofs.YtjlpjbkpmmpojaaGreatDoor.All
