-- Written by a program of this session (wip/tools/hprint.py) out of the translation. Lean checks it.
import Derived.Test.YtjlpjbkpmmpojaaDoorAllx0
import Derived.Test.YtjlpjbkpmmpojaaDoorAllx1
namespace Go.Proofs.YtjlpjbkpmmpojaaDoor.All
open Go.RowKit Go.Proofs.YtjlpjbkpmmpojaaDoorW.PrintWords Go.Proofs.YtjlpjbkpmmpojaaDoorW.PrintLast Go.Proofs.YtjlpjbkpmmpojaaDoorW.PrintMore
attribute [local go_sem] max2_int min2_int max_two min_two max_three min_three max_four min_four   -- for this text's walks alone
set_option linter.unusedVariables false
set_option linter.unusedSimpArgs false

/-! ### spec_l2DrawRight: function 54 -/
theorem u54HK {p : Prop} (h : p := by repeat (first | (with_reducible first | exact HK.out | apply KeepBut.set_ | apply keep_drewN | apply keep_drew | apply keep_alloc | refine keep_far ?_ GW211.out _) | exact HK.out)) : p := h
theorem u54HB {p : Prop} (h : p := by repeat (first | (with_reducible first | exact HB.out | apply below_alloc | apply pw_below_drewN | apply below_drew1 | refine below_set ?_ (IsS57.ge HI0.out) | refine below_set ?_ GE211.out) | exact HB.out)) : p := h
theorem u54HI0 {p : Prop} (h : p := by repeat (first | (with_reducible first | exact HI0.out | apply IsS57.alloc | apply IsS57.drewN | apply IsS57.drew | apply IsS57.set_1 | apply IsS57.set_2 | apply IsS57.far (p := ⟨gb211, _, none⟩) (hne := NB0_211.out)) | exact HI0.out)) : p := h
def spec_l2DrawRight.l0 : Nat → List (S46) → Int → List Int → Int → Int → Option ((List (S46)) × Int × Int)
 | 0, _, _, _, _, _ => none
 | k + 1, x3, x4, x1000, x1001, x1002 => (spec_l1Below.f x1000 x1001 x1002 5).bind fun bt204 => (if x4 < bt204.1 then ((spec_l2DrawField.f x1000 bt204.2.1 bt204.2.2).bind fun bt207 => ((spec_l2At.f k x3 bt207.1).bind fun t212 => (if t212 < 0 then (if x3.length < 4398046511104 then (spec_l2DrawRight.l0 k (x3 ++ [(⟨bt207.1, bt207.2.1⟩ : S46)]) (wrap64 (x4 + 1)) x1000 bt207.2.2.1 bt207.2.2.2) else (none)) else (spec_l2DrawRight.l0 k x3 (wrap64 (x4 + 1)) x1000 bt207.2.2.1 bt207.2.2.2)))) else (some (x3, bt204.2.1, bt204.2.2)))
def spec_l2DrawRight.f (k : Nat) (s0_0 : List Int) (s0_1 : Int) (s0_2 : Int) : Option ((List (S46)) × Int × Int) := spec_l2DrawRight.l0 k (([] : List (S46))) 0 s0_0 s0_1 s0_2
theorem spec_l2DrawRight.mono_l : ∀ k, (∀ y0 y1 y2 y3 y4, LeO (spec_l2DrawRight.l0 k y0 y1 y2 y3 y4) (spec_l2DrawRight.l0 (k + 1) y0 y1 y2 y3 y4))
 | 0 => fun _ _ _ _ _ r h => by simp [spec_l2DrawRight.l0] at h
 | k + 1 => by
  have ih0 := spec_l2DrawRight.mono_l k
  ·intro y0 y1 y2 y3 y4
   unfold spec_l2DrawRight.l0
   have m0 := @spec_l2At.mono
   exact mo
theorem spec_l2DrawRight.mono : ∀ a0 a1 a2 k, LeO (spec_l2DrawRight.f k a0 a1 a2) (spec_l2DrawRight.f (k + 1) a0 a1 a2) := by
 intro a0 a1 a2 k
 have ih0 := spec_l2DrawRight.mono_l k
 unfold spec_l2DrawRight.f
 have m0 := @spec_l2At.mono
 exact mo
set_option maxHeartbeats 8000000 in
set_option maxRecDepth 100000 in
theorem spec_l2DrawRight.calls (k : Nat) (g : Nat) (s0_0 : List Int) (s0_1 : Int) (s0_2 : Int) (r1 : List (S46)) (r2 : Int) (r3 : Int) (w0 w : World) (hI : IsS57 w0 w g s0_0 s0_1 s0_2) (hB : Below w0.heap.size w0 w) (h : spec_l2DrawRight.f k s0_0 s0_1 s0_2 = some (r1, r2, r3)) :
  Calls Tryd.prog 54 #[.pointer (some ⟨g, 0, none⟩)] w fun e w' => ∃ v0_ : Value, e = .returned (v0_) ∧ Kd.R k46 46 w' w.heap.size (fun _ => True) v0_ r1 ∧ IsS57 w0 w' g s0_0 r2 r3 ∧ Below w0.heap.size w0 w' ∧ KeepBut w w' g none := by
 have hu46 := Tryd.underlying46
 have HI0 := am hI
 have HK := am (KeepBut.refl w g none)
 have HL := am hB.size
 clear hI
 have HW0 := am hB.size
 have HB := am hB
 clear hB
 unfold spec_l2DrawRight.f at h
 have H := h
 clear h
 obtain ⟨y201, hy201⟩ : ∃ y_ : List (S46), y_ = (([] : List (S46))) := ⟨_, rfl⟩
 replace H : (spec_l2DrawRight.l0 k y201 0 s0_0 s0_1 s0_2) = some (r1, r2, r3) := by first | (rw [hy201]; with_reducible exact H) | (have H2_ := (Option.bind_some _ _).symm.trans H; rw [hy201]; with_reducible exact H2_) | (have H2_ := (Option.bind_some _ _).symm.trans H; with_reducible exact H2_) | with_reducible exact H | (rw [hy201]; exact H) | exact H
 have Ny201 := am hy201
 clear hy201
 have H' := am H
 clear H
 go_enter Tryd.func54, Tryd.ntmps54
 go_wp2_with (first | ((with_reducible refine gate_dst (N := 6) rfl ?_); refine Kd.R_lit k46 _ 46 ?hg (N := 6) ?hd (xs := ([] : List (S46))) (inner := []) (ok := fun _ => True) (okp := fun _ => True) ?hr ?hp (fun _ hk => hk) trivial (Below.refl _ _) (Nat.le_refl _) (by simp) ?_; (case hd => rfl); (case hg => rfl); (case hr => first | (go_simp; done) | (go_simp; rfl)); (case hp => exact (Reps.none _ _)); intro v202 w2 ho3 hb hg_ hnew_; clear hg_ hnew_; (first | rw [← Ny201.out] at ho3 | (simp only [Int.reduceToNat] at ho3; rw [← Ny201.out] at ho3)); have HO203 := am (Kd.R_lower ho3 (keep_size (w := w) (g := g) (row := none) u54HK)); replace HK := am (KeepBut.trans u54HK (KeepBut.of_below hb g none) (.inl rfl)); replace HB := am (below_step u54HB hb); replace HI0 := am (IsS57.below u54HI0 hb); clear hb ho3))
 (try simp only [Act.put, List.setIfInBounds_toArray, List.set_cons_zero, List.set_cons_succ])
 go_loopg [3, 4] k (fun kq v3 v4 w' => ∃ (x3_1 : List (S46)) (x4_1 : Int) (x1001_1 : Int) (x1002_1 : Int), v4 = .int .i64 x4_1 ∧ Aside0 (spec_l2DrawRight.l0 kq x3_1 x4_1 s0_0 x1001_1 x1002_1 = some (r1, r2, r3)) ∧ Aside0 (kq ≤ k) ∧ Aside0 (Kd.R k46 46 w' w.heap.size (fun _ => True) v3 x3_1) ∧ Aside0 (IsS57 w0 w' g s0_0 x1001_1 x1002_1) ∧ Aside0 (KeepBut w w' g none) ∧ Aside0 (Below w0.heap.size w0 w'))
 case atStart => exact ⟨(y201), (0), (s0_1), (s0_2), rs, H', ⟨Nat.le_refl _⟩, ⟨by (with_reducible repeat (first | apply Kd.R_alloc | apply Kd.R_drewN | apply Kd.R_drew)); exact HO203.out⟩, ⟨u54HI0⟩, ⟨u54HK⟩, ⟨u54HB⟩⟩
 case round =>
  clear H'
  try clear p2
  obtain ⟨x3_1, x4_1, x1001_1, x1002_1, rfl, HA, HK1, HO_3, HI0, HK, HB⟩ := hrel
  cases gk with
  | zero => exact absurd HA.out (by simp [spec_l2DrawRight.l0])
  | succ k1 =>
   have H := HA.out
   clear HA
   simp only [spec_l2DrawRight.l0] at H
   revert H
   refine ok3 fun t204 t205 t206 A4 H => ?_
   (try dsimp only at H)
   have HH5 := am H
   clear H
   go_upto_if 10 with ((with_reducible refine gw ?_); first | (refine gl 9 Tryd.func34 #[.pointer (some ⟨g, 0, none⟩), .int .i64 5] ?_; (with_reducible refine (spec_l1Below.calls g s0_0 x1001_1 x1002_1 5 t204 t205 t206 w0 _ ?side1 ?side2 A4.out).mono ?_); (case side1 => exact u54HI0); (case side2 => exact u54HB); rintro e w6 ⟨rfl, hi, hb, hk⟩; refine ⟨_, rfl, ?_⟩; replace HO_3 := am (Kd.R_mono (Kd.R_keep (IsS57.apart (show IsS57 w0 _ g s0_0 x1001_1 x1002_1 from u54HI0) (ro HO_3) (by decide)) hk (fun _ h => h.2)) (fun _ h => h.1)); replace HK := am (KeepBut.trans u54HK hk (.inl rfl)); replace HB := am (hb); replace HI0 := am (hi); clear hb hk hi))
   have H := HH5.out
   clear HH5
   by_cases c7 : x4_1 < t204
   rotate_left
   ·rw [if_neg c7] at H
    have c7b0 := decide_eq_false c7
    clear c7
    (first | rw [c7b0] | (simp only [i64_w, i32_w]; rw [c7b0]) | skip)
    simp only [Option.some.injEq, Prod.mk.injEq] at H
    obtain ⟨rfl, rfl, rfl⟩ := H
    go_wp2
    go_ret
    exact ⟨_, rf, by (with_reducible repeat (first | apply Kd.R_alloc | apply Kd.R_drewN | apply Kd.R_drew)); exact HO_3.out, u54HI0, u54HB, u54HK⟩
   rw [if_pos c7] at H
   have c7b0 := decide_eq_true c7
   clear c7
   (first | rw [c7b0] | (simp only [i64_w, i32_w]; rw [c7b0]) | skip)
   revert H
   refine ok4 fun t207 t208 t209 t210 A8 H => ?_
   (try dsimp only at H)
   revert H
   refine ok1 fun t212 A9 H => ?_
   have HH10 := am H
   clear H
   go_upto_if 19 with ((with_reducible refine gw ?_); first | (refine gl 14 Tryd.func56 #[.pointer (some ⟨g, 0, none⟩)] ?_; (with_reducible refine (spec_l2DrawField.calls g s0_0 t205 t206 t207 t208 t209 t210 w0 _ ?side1 ?side2 A8.out).mono ?_); (case side1 => exact u54HI0); (case side2 => exact u54HB); rintro e w11 ⟨rfl, hi, hb, hk⟩; refine ⟨_, rfl, ?_⟩; replace HO_3 := am (Kd.R_mono (Kd.R_keep (IsS57.apart (show IsS57 w0 _ g s0_0 t205 t206 from u54HI0) (ro HO_3) (by decide)) hk (fun _ h => h.2)) (fun _ h => h.1)); replace HK := am (KeepBut.trans u54HK hk (.inl rfl)); replace HB := am (hb); replace HI0 := am (hi); clear hb hk hi) | (refine bx 5 #[.string (⟨#[]⟩ : ByteArray), .string (⟨#[]⟩ : ByteArray)] 46 ?_; intro gb211 hg w12 hbox hb; have n0_ := am (Kd.R_below (Kd.R_elderB (ro HO_3) gb211 (Nat.le_of_eq hg.symm)) hb); have n1_ := am (IsS57.below u54HI0 hb); have n2_ := am (KeepBut.trans u54HK (KeepBut.of_below hb g none) (.inl rfl)); have n3_ := am (below_step u54HB hb); have n4_ := am (hbox); have n5_ := am ((by rw [hg]; exact (keep_size (w := w) (g := g) (row := none) u54HK) : w.heap.size ≤ gb211)); have n6_ := am ((Nat.le_trans HW0.out (by rw [hg]; exact (keep_size (w := w) (g := g) (row := none) u54HK) : w.heap.size ≤ gb211) : w0.heap.size ≤ gb211)); have n7_ := am ((by rw [hg]; exact Nat.ne_of_lt (IsS57.lt (show IsS57 w0 _ g s0_0 t209 t210 from u54HI0)) : g ≠ gb211)); have n8_ := am ((by rw [hg]; exact Nat.ne_of_gt (IsS57.lt (show IsS57 w0 _ g s0_0 t209 t210 from u54HI0)) : gb211 ≠ g)); clear HO_3; clear HI0; clear HK; clear HB; have HO_3 := n0_; have HI0 := n1_; have HK := n2_; have HB := n3_; have BK211 := n4_; have GW211 := n5_; have GE211 := n6_; have NB0_211 := n7_; have NB211_0 := n8_; clear n0_ n1_ n2_ n3_ n4_ n5_ n6_ n7_ n8_; clear hb hbox hg; have hnb13 := NB211_0.out; have hnc13 := NB0_211.out; obtain ⟨z14_0, y14_0, z14_1, y14_1⟩ := cl2 BK211; obtain ⟨Ao15, co15, eo15⟩ := Kd.R_slice HO_3.out; subst eo15) | (refine gl 18 Tryd.func36 #[.slice Ao15 x3_1.length co15, .string t207] ?_; (with_reducible refine (spec_l2At.calls k1 _ _ x3_1 t207 t212 _ ?side1 ?side2 A9.out).mono ?_); (case side1 => refine (Kd.R_reads' (e := 46) (base := w.heap.size) (ok := fun k_ => (True ∧ k_ ≠ gb211)) (n := x3_1.length) (c := co15) ?_).2.2; exact (by (with_reducible repeat (first | apply Kd.R_alloc | apply Kd.R_drewN | apply Kd.R_drew)); exact (Kd.R_mono (Kd.R_far (p := ⟨gb211, 1, none⟩) (Kd.R_far (p := ⟨gb211, 0, none⟩) (Kd.R_mono HO_3.out (fun k_ hk => (⟨hk, hk.2⟩ : _ ∧ k_ ≠ gb211))) (fun _ hk => hk.2) (.string t207)) (fun _ hk => hk.2) (.string t208)) (fun _ h_ => h_.1)))); (case side2 => exact (Kd.R_reads' HO_3.out).2.1); rintro e w' ⟨rfl, ⟨nd, rfl⟩⟩; refine ⟨_, rfl, ?_⟩))
   have H := HH10.out
   clear HH10
   by_cases c16 : t212 < 0
   rotate_left
   ·rw [if_neg c16] at H
    have c16b0 := decide_eq_false c16
    clear c16
    (first | rw [c16b0] | (simp only [i64_w, i32_w]; rw [c16b0]) | skip)
    have H' := am H
    clear H
    go_wp2
    go_roundg k1
    case measure => have := HK1.out; omega
    case rel => exact ⟨(x3_1), (wrap64 (x4_1 + 1)), (t209), (t210), rs, H', ⟨by have := HK1.out; omega⟩, ⟨by (with_reducible repeat (first | apply Kd.R_alloc | apply Kd.R_drewN | apply Kd.R_drew)); exact Kd.R_mono (Kd.R_far (p := ⟨gb211, 1, none⟩) (Kd.R_far (p := ⟨gb211, 0, none⟩) (Kd.R_mono HO_3.out (fun k_ hk => (⟨hk, hk.2⟩ : _ ∧ k_ ≠ gb211))) (fun _ hk => hk.2) (.string t207)) (fun _ hk => hk.2) (.string t208)) (fun _ hk => trivial)⟩, ⟨u54HI0⟩, ⟨u54HK⟩, ⟨u54HB⟩⟩
   rw [if_pos c16] at H
   have c16b0 := decide_eq_true c16
   clear c16
   (first | rw [c16b0] | (simp only [i64_w, i32_w]; rw [c16b0]) | skip)
   revert H
   refine ifn fun c17 H => ?_
   have LMc17 := am c17
   clear c17
   obtain ⟨y213, hy213⟩ : ∃ y_ : List (S46), y_ = (x3_1 ++ [(⟨t207, t208⟩ : S46)]) := ⟨_, rfl⟩
   replace H : (spec_l2DrawRight.l0 k1 y213 (wrap64 (x4_1 + 1)) s0_0 t209 t210) = some (r1, r2, r3) := by first | (rw [hy213]; with_reducible exact H) | (have H2_ := (Option.bind_some _ _).symm.trans H; rw [hy213]; with_reducible exact H2_) | (have H2_ := (Option.bind_some _ _).symm.trans H; with_reducible exact H2_) | with_reducible exact H | (rw [hy213]; exact H) | exact H
   have Ny213 := am hy213
   clear hy213
   have H' := am H
   clear H
   have hnb18 := NB211_0.out
   have hnc18 := NB0_211.out
   obtain ⟨z19_0, y19_0, z19_1, y19_1⟩ := cl2 BK211
   go_wp2_with (first | ((with_reducible refine gate_builtin (b := .append) (xs := #[.tmp 20, .tmp 22]) rfl ?_); at_builtin; refine Kd.R_append k46 w.heap.size rfl (.tmp 20) (.tmp 22) 24 46 (.agg #[(.string ⟨#[]⟩), (.string ⟨#[]⟩)]) 32 rfl Tryd.underlying24 info46 rfl (by decide) (by omega) (.slice Ao15 x3_1.length co15) x3_1 (⟨t207, t208⟩ : S46) [.string t207, .string t208] (fun k_ => k_ ≠ gb211) (fun _ => False) rfl (by first | (go_simp; done) | (go_simp; rfl)) ?aP (fun _ hk => hk.elim) ?aF ?aO (Below.refl _ _) ?aS ?aL ?_; (case aP => exact k46_mkM _ _ _ (⟨t207, t208⟩ : S46)); (case aF => exact (fun k_ hk => Kd.freshB (g := gb211) (o := .cells #[.string t207, .string t208] 46 (0, 0)) (pt0 BK211) k_ hk)); (case aO => exact (by (with_reducible repeat (first | apply Kd.R_alloc | apply Kd.R_drewN | apply Kd.R_drew)); exact Kd.R_mono (Kd.R_far (p := ⟨gb211, 1, none⟩) (Kd.R_far (p := ⟨gb211, 0, none⟩) (Kd.R_mono HO_3.out (fun k_ hk => (⟨hk, hk.2⟩ : _ ∧ k_ ≠ gb211))) (fun _ hk => hk.2) (.string t207)) (fun _ hk => hk.2) (.string t208)) (fun _ hk => hk.1.2))); (case aS => exact (keep_size (w := w) (g := g) (row := none) u54HK)); (case aL => have := LMc17.out; omega); intro v214 w20 ho hb hg hat; rw [← Ny213.out] at ho; have n0_ := am (IsS57.grown u54HI0 hg (IsS57.own_ne HI0.out HO_3.out (by decide))); have n1_ := am (blk_grown (g := gb211) (o := .cells #[.string t207, .string t208] 46 (0, 0)) (pt0 BK211) hg (Kd.R_away HO_3.out (fun _ hk => hk.2))); have n2_ := am (below_weaken u54HB HL.out hb); have n3_ := am (KeepBut.trans u54HK (KeepBut.of_grown hg g) (Kd.R_base2 HO_3.out)); have n4_ := am (ho); clear HI0; clear BK211; clear HB; clear HK; clear HO_3; have HI0 := n0_; have BK211 := n1_; have HB := n2_; have HK := n3_; have HO215 := n4_; clear n0_ n1_ n2_ n3_ n4_; clear ho hb hg hat))
   go_roundg k1
   case measure => have := HK1.out; omega
   case rel => exact ⟨(y213), (wrap64 (x4_1 + 1)), (t209), (t210), rs, H', ⟨by have := HK1.out; omega⟩, ⟨by (with_reducible repeat (first | apply Kd.R_alloc | apply Kd.R_drewN | apply Kd.R_drew)); exact Kd.R_mono HO215.out (fun _ hk => trivial)⟩, ⟨u54HI0⟩, ⟨u54HK⟩, ⟨u54HB⟩⟩

/-! ### spec_l1DrawText: function 59 -/
theorem u59HK {p : Prop} (h : p := by repeat (first | (with_reducible first | exact HK.out | apply KeepBut.set_ | apply keep_drewN | apply keep_drew | apply keep_alloc) | exact HK.out)) : p := h
theorem u59HB {p : Prop} (h : p := by repeat (first | (with_reducible first | exact HB.out | apply below_alloc | apply pw_below_drewN | apply below_drew1 | refine below_set ?_ (IsS57.ge HI0.out)) | exact HB.out)) : p := h
theorem u59HI0 {p : Prop} (h : p := by repeat (first | (with_reducible first | exact HI0.out | apply IsS57.alloc | apply IsS57.drewN | apply IsS57.drew | apply IsS57.set_1 | apply IsS57.set_2) | exact HI0.out)) : p := h
def spec_l1DrawText.l0 : Nat → List Int → Int → List Int → Int → Int → Option (ByteArray × Int × Int)
 | 0, _, _, _, _, _ => none
 | k + 1, x3, x4, x1000, x1001, x1002 => (spec_l1Below.f x1000 x1001 x1002 14).bind fun bt219 => (if x4 < bt219.1 then ((spec_l1Pick.f x1000 bt219.2.1 bt219.2.2 (([(⟨#[32]⟩ : ByteArray), (⟨#[44]⟩ : ByteArray), (⟨#[97]⟩ : ByteArray), (⟨#[90]⟩ : ByteArray), (⟨#[55]⟩ : ByteArray), (⟨#[45]⟩ : ByteArray), (⟨#[61]⟩ : ByteArray), (⟨#[120]⟩ : ByteArray), (⟨#[58]⟩ : ByteArray), (⟨#[1]⟩ : ByteArray), (⟨#[64]⟩ : ByteArray), (⟨#[91]⟩ : ByteArray)] : List ByteArray))).bind fun bt225 => (if 0 < (bt225.1.size : Int) then (if x3.length < 140737488355328 then (spec_l1DrawText.l0 k (x3 ++ [bt bt225.1 0]) (wrap64 (x4 + 1)) x1000 bt225.2.1 bt225.2.2) else (none)) else (none))) else (some (strOfNums x3, bt219.2.1, bt219.2.2)))
def spec_l1DrawText.f (k : Nat) (s0_0 : List Int) (s0_1 : Int) (s0_2 : Int) : Option (ByteArray × Int × Int) := spec_l1DrawText.l0 k (([] : List Int)) 0 s0_0 s0_1 s0_2
theorem spec_l1DrawText.mono_l : ∀ k, (∀ y0 y1 y2 y3 y4, LeO (spec_l1DrawText.l0 k y0 y1 y2 y3 y4) (spec_l1DrawText.l0 (k + 1) y0 y1 y2 y3 y4))
 | 0 => fun _ _ _ _ _ r h => by simp [spec_l1DrawText.l0] at h
 | k + 1 => by
  have ih0 := spec_l1DrawText.mono_l k
  ·intro y0 y1 y2 y3 y4
   unfold spec_l1DrawText.l0
   exact mo
theorem spec_l1DrawText.mono : ∀ a0 a1 a2 k, LeO (spec_l1DrawText.f k a0 a1 a2) (spec_l1DrawText.f (k + 1) a0 a1 a2) := by
 intro a0 a1 a2 k
 have ih0 := spec_l1DrawText.mono_l k
 unfold spec_l1DrawText.f
 exact mo
set_option maxHeartbeats 8000000 in
set_option maxRecDepth 100000 in
theorem spec_l1DrawText.calls (k : Nat) (g : Nat) (s0_0 : List Int) (s0_1 : Int) (s0_2 : Int) (r1 : ByteArray) (r2 : Int) (r3 : Int) (w0 w : World) (hI : IsS57 w0 w g s0_0 s0_1 s0_2) (hB : Below w0.heap.size w0 w) (h : spec_l1DrawText.f k s0_0 s0_1 s0_2 = some (r1, r2, r3)) :
  Calls Tryd.prog 59 #[.pointer (some ⟨g, 0, none⟩)] w fun e w' => e = .returned (.string r1) ∧ IsS57 w0 w' g s0_0 r2 r3 ∧ Below w0.heap.size w0 w' ∧ KeepBut w w' g none := by
 have HI0 := am hI
 have HK := am (KeepBut.refl w g none)
 have HL := am hB.size
 clear hI
 have HW0 := am hB.size
 have HB := am hB
 clear hB
 unfold spec_l1DrawText.f at h
 have H := h
 clear h
 obtain ⟨y216, hy216⟩ : ∃ y_ : List Int, y_ = (([] : List Int)) := ⟨_, rfl⟩
 replace H : (spec_l1DrawText.l0 k y216 0 s0_0 s0_1 s0_2) = some (r1, r2, r3) := by first | (rw [hy216]; with_reducible exact H) | (have H2_ := (Option.bind_some _ _).symm.trans H; rw [hy216]; with_reducible exact H2_) | (have H2_ := (Option.bind_some _ _).symm.trans H; with_reducible exact H2_) | with_reducible exact H | (rw [hy216]; exact H) | exact H
 have Ny216 := am hy216
 clear hy216
 have H' := am H
 clear H
 go_enter Tryd.func59, Tryd.ntmps59
 go_wp2_with (first | ((with_reducible refine gate_dst (N := 5) rfl ?_); refine Kd.R_lit (Kd.int .u8) _ 5 ?hg (N := 5) ?hd (xs := ([] : List Int)) (inner := []) (ok := fun _ => True) (okp := fun _ => True) ?hr ?hp (fun _ hk => hk) trivial (Below.refl _ _) (Nat.le_refl _) (by simp) ?_; (case hd => rfl); (case hg => rfl); (case hr => first | (go_simp; done) | (go_simp; rfl)); (case hp => exact (Reps.none _ _)); intro v217 w2 ho3 hb hg_ hnew_; clear hg_ hnew_; (first | rw [← Ny216.out] at ho3 | (simp only [Int.reduceToNat] at ho3; rw [← Ny216.out] at ho3)); have HO218 := am (Kd.R_lower ho3 (keep_size (w := w) (g := g) (row := none) u59HK)); replace HK := am (KeepBut.trans u59HK (KeepBut.of_below hb g none) (.inl rfl)); replace HB := am (below_step u59HB hb); replace HI0 := am (IsS57.below u59HI0 hb); clear hb ho3))
 (try simp only [Act.put, List.setIfInBounds_toArray, List.set_cons_zero, List.set_cons_succ])
 go_loopg [3, 4] k (fun kq v3 v4 w' => ∃ (x3_1 : List Int) (x4_1 : Int) (x1001_1 : Int) (x1002_1 : Int), v4 = .int .i64 x4_1 ∧ Aside0 (spec_l1DrawText.l0 kq x3_1 x4_1 s0_0 x1001_1 x1002_1 = some (r1, r2, r3)) ∧ Aside0 (kq ≤ k) ∧ Aside0 (Kd.R (Kd.int .u8) 5 w' w.heap.size (fun _ => True) v3 x3_1) ∧ Aside0 (IsS57 w0 w' g s0_0 x1001_1 x1002_1) ∧ Aside0 (KeepBut w w' g none) ∧ Aside0 (Below w0.heap.size w0 w'))
 case atStart => exact ⟨(y216), (0), (s0_1), (s0_2), rs, H', ⟨Nat.le_refl _⟩, ⟨by (with_reducible repeat (first | apply Kd.R_alloc | apply Kd.R_drewN | apply Kd.R_drew)); exact HO218.out⟩, ⟨u59HI0⟩, ⟨u59HK⟩, ⟨u59HB⟩⟩
 case round =>
  clear H'
  try clear p2
  obtain ⟨x3_1, x4_1, x1001_1, x1002_1, rfl, HA, HK1, HO_3, HI0, HK, HB⟩ := hrel
  cases gk with
  | zero => exact absurd HA.out (by simp [spec_l1DrawText.l0])
  | succ k1 =>
   have H := HA.out
   clear HA
   simp only [spec_l1DrawText.l0] at H
   revert H
   refine ok3 fun t219 t220 t221 A4 H => ?_
   (try dsimp only at H)
   by_cases c5 : x4_1 < t219
   rotate_left
   ·rw [if_neg c5] at H
    have c5b0 := decide_eq_false c5
    clear c5
    simp only [Option.some.injEq, Prod.mk.injEq] at H
    obtain ⟨rfl, rfl, rfl⟩ := H
    go_wp2_with ((with_reducible refine gw ?_); first | (refine gl 8 Tryd.func34 #[.pointer (some ⟨g, 0, none⟩), .int .i64 14] ?_; (with_reducible refine (spec_l1Below.calls g s0_0 x1001_1 x1002_1 14 t219 t220 t221 w0 _ ?side1 ?side2 A4.out).mono ?_); (case side1 => exact u59HI0); (case side2 => exact u59HB); rintro e w16 ⟨rfl, hi, hb, hk⟩; refine ⟨_, rfl, ?_⟩; replace HO_3 := am (Kd.R_mono (Kd.R_keep (IsS57.apart (show IsS57 w0 _ g s0_0 x1001_1 x1002_1 from u59HI0) (ro HO_3) (by decide)) hk (fun _ h => h.2)) (fun _ h => h.1)); replace HK := am (KeepBut.trans u59HK hk (.inl rfl)); replace HB := am (hb); replace HI0 := am (hi); clear hb hk hi; have hcv17 := own_string (P := Tryd.prog) Tryd.underlying22 Tryd.underlying5 Tryd.underlying9 (Kd.own_of_R HO_3.out)))
    go_ret
    exact ⟨rf, u59HI0, u59HB, u59HK⟩
   rw [if_pos c5] at H
   have c5b0 := decide_eq_true c5
   clear c5
   obtain ⟨y222, hy222⟩ : ∃ y_ : List ByteArray, y_ = (([(⟨#[32]⟩ : ByteArray), (⟨#[44]⟩ : ByteArray), (⟨#[97]⟩ : ByteArray), (⟨#[90]⟩ : ByteArray), (⟨#[55]⟩ : ByteArray), (⟨#[45]⟩ : ByteArray), (⟨#[61]⟩ : ByteArray), (⟨#[120]⟩ : ByteArray), (⟨#[58]⟩ : ByteArray), (⟨#[1]⟩ : ByteArray), (⟨#[64]⟩ : ByteArray), (⟨#[91]⟩ : ByteArray)] : List ByteArray)) := ⟨_, rfl⟩
   replace H : ((spec_l1Pick.f s0_0 t220 t221 y222).bind fun bt225 => (if 0 < (bt225.1.size : Int) then (if x3_1.length < 140737488355328 then (spec_l1DrawText.l0 k1 (x3_1 ++ [bt bt225.1 0]) (wrap64 (x4_1 + 1)) s0_0 bt225.2.1 bt225.2.2) else (none)) else (none))) = some (r1, r2, r3) := by first | (rw [hy222]; with_reducible exact H) | (have H2_ := (Option.bind_some _ _).symm.trans H; rw [hy222]; with_reducible exact H2_) | (have H2_ := (Option.bind_some _ _).symm.trans H; with_reducible exact H2_) | with_reducible exact H | (rw [hy222]; exact H) | exact H
   have Ny222 := am hy222
   clear hy222
   revert H
   refine ok3 fun t225 t226 t227 A6 H => ?_
   (try dsimp only at H)
   revert H
   refine ifn fun c7 H => ?_
   have c7b0 := decide_eq_true c7
   have c7b1 : decide (0 < t225.size) = true := decide_eq_true (by omega)
   clear c7
   revert H
   refine ifn fun c9 H => ?_
   have LMc9 := am c9
   clear c9
   obtain ⟨y228, hy228⟩ : ∃ y_ : List Int, y_ = (x3_1 ++ [bt t225 0]) := ⟨_, rfl⟩
   replace H : (spec_l1DrawText.l0 k1 y228 (wrap64 (x4_1 + 1)) s0_0 t226 t227) = some (r1, r2, r3) := by first | (rw [hy228]; with_reducible exact H) | (have H2_ := (Option.bind_some _ _).symm.trans H; rw [hy228]; with_reducible exact H2_) | (have H2_ := (Option.bind_some _ _).symm.trans H; with_reducible exact H2_) | with_reducible exact H | (rw [hy228]; exact H) | exact H
   have Ny228 := am hy228
   clear hy228
   have H' := am H
   clear H
   go_wp2_with (first | ((with_reducible refine gw ?_); refine gl 8 Tryd.func34 #[.pointer (some ⟨g, 0, none⟩), .int .i64 14] ?_; (with_reducible refine (spec_l1Below.calls g s0_0 x1001_1 x1002_1 14 t219 t220 t221 w0 _ ?side1 ?side2 A4.out).mono ?_); (case side1 => exact u59HI0); (case side2 => exact u59HB); rintro e w10 ⟨rfl, hi, hb, hk⟩; refine ⟨_, rfl, ?_⟩; replace HO_3 := am (Kd.R_mono (Kd.R_keep (IsS57.apart (show IsS57 w0 _ g s0_0 x1001_1 x1002_1 from u59HI0) (ro HO_3) (by decide)) hk (fun _ h => h.2)) (fun _ h => h.1)); replace HK := am (KeepBut.trans u59HK hk (.inl rfl)); replace HB := am (hb); replace HI0 := am (hi); clear hb hk hi) | ((with_reducible refine gate_dst (N := 14) rfl ?_); refine Kd.R_lit Kd.string _ 9 ?hg (N := 14) ?hd (xs := ([(⟨#[32]⟩ : ByteArray), (⟨#[44]⟩ : ByteArray), (⟨#[97]⟩ : ByteArray), (⟨#[90]⟩ : ByteArray), (⟨#[55]⟩ : ByteArray), (⟨#[45]⟩ : ByteArray), (⟨#[61]⟩ : ByteArray), (⟨#[120]⟩ : ByteArray), (⟨#[58]⟩ : ByteArray), (⟨#[1]⟩ : ByteArray), (⟨#[64]⟩ : ByteArray), (⟨#[91]⟩ : ByteArray)] : List ByteArray)) (inner := [.string (⟨#[32]⟩ : ByteArray), .string (⟨#[44]⟩ : ByteArray), .string (⟨#[97]⟩ : ByteArray), .string (⟨#[90]⟩ : ByteArray), .string (⟨#[55]⟩ : ByteArray), .string (⟨#[45]⟩ : ByteArray), .string (⟨#[61]⟩ : ByteArray), .string (⟨#[120]⟩ : ByteArray), .string (⟨#[58]⟩ : ByteArray), .string (⟨#[1]⟩ : ByteArray), .string (⟨#[64]⟩ : ByteArray), .string (⟨#[91]⟩ : ByteArray)]) (ok := fun _ => True) (okp := fun _ => True) ?hr ?hp (fun _ hk => hk) trivial (Below.refl _ _) (Nat.le_refl _) (by simp) ?_; (case hd => rfl); (case hg => rfl); (case hr => first | (go_simp; done) | (go_simp; rfl)); (case hp => exact rp); intro v223 w11 ho12 hb hg_ hnew_; clear hg_ hnew_; (first | rw [← Ny222.out] at ho12 | (simp only [Int.reduceToNat] at ho12; rw [← Ny222.out] at ho12)); replace HO_3 := kr HO_3 hb; have HO224 := am (Kd.R_lower ho12 (keep_size (w := w) (g := g) (row := none) u59HK)); replace HK := am (KeepBut.trans u59HK (KeepBut.of_below hb g none) (.inl rfl)); replace HB := am (below_step u59HB hb); replace HI0 := am (IsS57.below u59HI0 hb); clear hb ho12; obtain ⟨Ao13, co13, eo13⟩ := Kd.R_slice HO224.out; subst eo13) | ((with_reducible refine gw ?_); refine gl 15 Tryd.func50 #[.pointer (some ⟨g, 0, none⟩), .slice Ao13 y222.length co13] ?_; (with_reducible refine (spec_l1Pick.calls g s0_0 t220 t221 _ _ y222 t225 t226 t227 w0 _ ?side1 ?side2 ?side3 ?side4 ?side5 A6.out).mono ?_); (case side1 => exact u59HI0); (case side2 => exact u59HB); (case side3 => exact rc HO224); (case side4 => exact (Kd.R_reads' HO224.out).2.1); (case side5 => exact far_slice (IsS57.own_ne HI0.out HO224.out (by decide))); rintro e w14 ⟨rfl, hi, hb, hk⟩; refine ⟨_, rfl, ?_⟩; replace HO_3 := am (Kd.R_mono (Kd.R_keep (IsS57.apart (show IsS57 w0 _ g s0_0 t220 t221 from u59HI0) (ro HO_3) (by decide)) hk (fun _ h => h.2)) (fun _ h => h.1)); replace HO224 := am (Kd.R_mono (Kd.R_keep (IsS57.apart (show IsS57 w0 _ g s0_0 t220 t221 from u59HI0) (ro HO224) (by decide)) hk (fun _ h => h.2)) (fun _ h => h.1)); replace HK := am (KeepBut.trans u59HK hk (.inl rfl)); replace HB := am (hb); replace HI0 := am (hi); clear hb hk hi; have p8 : 0 ≤ (0 : Int) := (by omega); have q8 : 0 < t225.size := (by have : (0 : Int) < (t225.size : Int) := od; omega); have hx8 : ∀ h : 0 < t225.size, ((t225[0]'h).toNat : Int) = bt t225 0 := bt_at t225 0; clear p8; have qi8 : (0 < (t225.size : Int)) = True := eq_true (od); replace q8 := eq_true q8) | ((with_reducible refine gate_builtin (b := .append) (xs := #[.tmp 12, .tmp 17]) rfl ?_); at_builtin; refine Kd.R_append (Kd.int .u8) w.heap.size rfl (.tmp 12) (.tmp 17) 22 5 (.int .u8 0) 1 rfl Tryd.underlying22 info5 rfl (by decide) (by omega) u3 x3_1 (bt t225 0) [.int .u8 (bt t225 0)] (fun _ => True) (fun _ => False) rfl rfl ?aP (fun _ hk => hk.elim) ?aF ?aO (Below.refl _ _) ?aS ?aL ?_; (case aP => exact rfl); (case aF => exact (fun _ _ => trivial)); (case aO => exact (ro HO_3)); (case aS => exact (keep_size (w := w) (g := g) (row := none) u59HK)); (case aL => have := LMc9.out; omega); intro v229 w15 ho hb hg hat; rw [← Ny228.out] at ho; have n0_ := am (IsS57.grown u59HI0 hg (IsS57.own_ne HI0.out HO_3.out (by decide))); have n1_ := am (Kd.R_over' (ro HO224) (Kd.R_typed (ro HO_3)) (by decide) hg); have n2_ := am (below_weaken u59HB HL.out hb); have n3_ := am (KeepBut.trans u59HK (KeepBut.of_grown hg g) (Kd.R_base2 HO_3.out)); have n4_ := am (ho); clear HI0; clear HO224; clear HB; clear HK; clear HO_3; have HI0 := n0_; have HO224 := n1_; have HB := n2_; have HK := n3_; have HO230 := n4_; clear n0_ n1_ n2_ n3_ n4_; clear ho hb hg hat))
   go_roundg k1
   case measure => have := HK1.out; omega
   case rel => exact ⟨(y228), (wrap64 (x4_1 + 1)), (t226), (t227), rs, H', ⟨by have := HK1.out; omega⟩, ⟨by (with_reducible repeat (first | apply Kd.R_alloc | apply Kd.R_drewN | apply Kd.R_drew)); exact HO230.out⟩, ⟨u59HI0⟩, ⟨u59HK⟩, ⟨u59HB⟩⟩

/-! ### spec_l3DrawBody: function 55 -/
theorem u55HI0 {p : Prop} (h : p := by repeat (first | (with_reducible first | exact HI0.out | apply IsS57.alloc | apply IsS57.drewN | apply IsS57.drew | apply IsS57.set_1 | apply IsS57.set_2) | exact HI0.out)) : p := h
theorem u55HB {p : Prop} (h : p := by repeat (first | (with_reducible first | exact HB.out | apply below_alloc | apply pw_below_drewN | apply below_drew1 | refine below_set ?_ (IsS57.ge HI0.out)) | exact HB.out)) : p := h
theorem u55HK {p : Prop} (h : p := by repeat (first | (with_reducible first | exact HK.out | apply KeepBut.set_ | apply keep_drewN | apply keep_drew | apply keep_alloc) | exact HK.out)) : p := h
def spec_l3DrawBody.f (k : Nat) (s0_0 : List Int) (s0_1 : Int) (s0_2 : Int) : Option (ByteArray × Int × Int) := (spec_l1Once.f s0_0 s0_1 s0_2 2).bind fun bt231 => (if bt231.1 = true then ((spec_l1Pick.f s0_0 bt231.2.1 bt231.2.2 (([(⟨#[]⟩ : ByteArray), (⟨#[104, 101, 108, 108, 111]⟩ : ByteArray), (⟨#[13, 10, 13, 10]⟩ : ByteArray), (⟨#[97, 0, 98]⟩ : ByteArray), (⟨#[111, 110, 101, 32, 116, 119, 111]⟩ : ByteArray)] : List ByteArray))).bind fun bt237 => (some (bt237.1, bt237.2.1, bt237.2.2))) else ((spec_l1DrawText.f k s0_0 bt231.2.1 bt231.2.2).bind fun bt240 => (some (bt240.1, bt240.2.1, bt240.2.2))))
theorem spec_l3DrawBody.mono : ∀ a0 a1 a2 k, LeO (spec_l3DrawBody.f k a0 a1 a2) (spec_l3DrawBody.f (k + 1) a0 a1 a2) := by
 intro a0 a1 a2 k
 unfold spec_l3DrawBody.f
 have m0 := @spec_l1DrawText.mono
 exact mo
set_option maxHeartbeats 8000000 in
set_option maxRecDepth 100000 in
theorem spec_l3DrawBody.calls (k : Nat) (g : Nat) (s0_0 : List Int) (s0_1 : Int) (s0_2 : Int) (r1 : ByteArray) (r2 : Int) (r3 : Int) (w0 w : World) (hI : IsS57 w0 w g s0_0 s0_1 s0_2) (hB : Below w0.heap.size w0 w) (h : spec_l3DrawBody.f k s0_0 s0_1 s0_2 = some (r1, r2, r3)) :
  Calls Tryd.prog 55 #[.pointer (some ⟨g, 0, none⟩)] w fun e w' => e = .returned (.string r1) ∧ IsS57 w0 w' g s0_0 r2 r3 ∧ Below w0.heap.size w0 w' ∧ KeepBut w w' g none := by
 have HI0 := am hI
 have HK := am (KeepBut.refl w g none)
 have HL := am hB.size
 clear hI
 have HW0 := am hB.size
 have HB := am hB
 clear hB
 unfold spec_l3DrawBody.f at h
 have H := h
 clear h
 revert H
 refine ok3 fun t231 t232 t233 A2 H => ?_
 (try dsimp only at H)
 by_cases c3 : t231 = true
 rotate_left
 ·replace c3 := Bool.eq_false_iff.mpr c3
  subst c3
  rw [if_neg (show ¬ (false = true) by decide)] at H
  revert H
  refine ok3 fun t240 t241 t242 A10 H => ?_
  (try dsimp only at H)
  simp only [Option.some.injEq, Prod.mk.injEq] at H
  obtain ⟨rfl, rfl, rfl⟩ := H
  go_enter Tryd.func55, Tryd.ntmps55
  go_wp2_with ((with_reducible refine gw ?_); first | (refine gl 4 Tryd.func19 #[.pointer (some ⟨g, 0, none⟩), .int .i64 2] ?_; (with_reducible refine (spec_l1Once.calls g s0_0 s0_1 s0_2 2 false t232 t233 w0 _ ?side1 ?side2 A2.out).mono ?_); (case side1 => exact u55HI0); (case side2 => exact u55HB); rintro e w11 ⟨rfl, hi, hb, hk⟩; refine ⟨_, rfl, ?_⟩; replace HK := am (KeepBut.trans u55HK hk (.inl rfl)); replace HB := am (hb); replace HI0 := am (hi); clear hb hk hi) | (refine gl 9 Tryd.func59 #[.pointer (some ⟨g, 0, none⟩)] ?_; (with_reducible refine (spec_l1DrawText.calls k g s0_0 t232 t233 t240 t241 t242 w0 _ ?side1 ?side2 A10.out).mono ?_); (case side1 => exact u55HI0); (case side2 => exact u55HB); rintro e w12 ⟨rfl, hi, hb, hk⟩; refine ⟨_, rfl, ?_⟩; replace HK := am (KeepBut.trans u55HK hk (.inl rfl)); replace HB := am (hb); replace HI0 := am (hi); clear hb hk hi))
  go_ret
  exact ⟨rf, u55HI0, u55HB, u55HK⟩
 subst c3
 rw [if_pos rfl] at H
 obtain ⟨y234, hy234⟩ : ∃ y_ : List ByteArray, y_ = (([(⟨#[]⟩ : ByteArray), (⟨#[104, 101, 108, 108, 111]⟩ : ByteArray), (⟨#[13, 10, 13, 10]⟩ : ByteArray), (⟨#[97, 0, 98]⟩ : ByteArray), (⟨#[111, 110, 101, 32, 116, 119, 111]⟩ : ByteArray)] : List ByteArray)) := ⟨_, rfl⟩
 replace H : ((spec_l1Pick.f s0_0 t232 t233 y234).bind fun bt237 => (some (bt237.1, bt237.2.1, bt237.2.2))) = some (r1, r2, r3) := by first | (rw [hy234]; with_reducible exact H) | (have H2_ := (Option.bind_some _ _).symm.trans H; rw [hy234]; with_reducible exact H2_) | (have H2_ := (Option.bind_some _ _).symm.trans H; with_reducible exact H2_) | with_reducible exact H | (rw [hy234]; exact H) | exact H
 have Ny234 := am hy234
 clear hy234
 revert H
 refine ok3 fun t237 t238 t239 A4 H => ?_
 (try dsimp only at H)
 simp only [Option.some.injEq, Prod.mk.injEq] at H
 obtain ⟨rfl, rfl, rfl⟩ := H
 go_enter Tryd.func55, Tryd.ntmps55
 go_wp2_with (first | ((with_reducible refine gw ?_); refine gl 4 Tryd.func19 #[.pointer (some ⟨g, 0, none⟩), .int .i64 2] ?_; (with_reducible refine (spec_l1Once.calls g s0_0 s0_1 s0_2 2 true t232 t233 w0 _ ?side1 ?side2 A2.out).mono ?_); (case side1 => exact u55HI0); (case side2 => exact u55HB); rintro e w5 ⟨rfl, hi, hb, hk⟩; refine ⟨_, rfl, ?_⟩; replace HK := am (KeepBut.trans u55HK hk (.inl rfl)); replace HB := am (hb); replace HI0 := am (hi); clear hb hk hi) | ((with_reducible refine gate_dst (N := 6) rfl ?_); refine Kd.R_lit Kd.string _ 9 ?hg (N := 6) ?hd (xs := ([(⟨#[]⟩ : ByteArray), (⟨#[104, 101, 108, 108, 111]⟩ : ByteArray), (⟨#[13, 10, 13, 10]⟩ : ByteArray), (⟨#[97, 0, 98]⟩ : ByteArray), (⟨#[111, 110, 101, 32, 116, 119, 111]⟩ : ByteArray)] : List ByteArray)) (inner := [.string (⟨#[]⟩ : ByteArray), .string (⟨#[104, 101, 108, 108, 111]⟩ : ByteArray), .string (⟨#[13, 10, 13, 10]⟩ : ByteArray), .string (⟨#[97, 0, 98]⟩ : ByteArray), .string (⟨#[111, 110, 101, 32, 116, 119, 111]⟩ : ByteArray)]) (ok := fun _ => True) (okp := fun _ => True) ?hr ?hp (fun _ hk => hk) trivial (Below.refl _ _) (Nat.le_refl _) (by simp) ?_; (case hd => rfl); (case hg => rfl); (case hr => first | (go_simp; done) | (go_simp; rfl)); (case hp => exact rp); intro v235 w6 ho7 hb hg_ hnew_; clear hg_ hnew_; (first | rw [← Ny234.out] at ho7 | (simp only [Int.reduceToNat] at ho7; rw [← Ny234.out] at ho7)); have HO236 := am (Kd.R_lower ho7 (keep_size (w := w) (g := g) (row := none) u55HK)); replace HK := am (KeepBut.trans u55HK (KeepBut.of_below hb g none) (.inl rfl)); replace HB := am (below_step u55HB hb); replace HI0 := am (IsS57.below u55HI0 hb); clear hb ho7; obtain ⟨Ao8, co8, eo8⟩ := Kd.R_slice HO236.out; subst eo8) | ((with_reducible refine gw ?_); refine gl 7 Tryd.func50 #[.pointer (some ⟨g, 0, none⟩), .slice Ao8 y234.length co8] ?_; (with_reducible refine (spec_l1Pick.calls g s0_0 t232 t233 _ _ y234 t237 t238 t239 w0 _ ?side1 ?side2 ?side3 ?side4 ?side5 A4.out).mono ?_); (case side1 => exact u55HI0); (case side2 => exact u55HB); (case side3 => exact rc HO236); (case side4 => exact (Kd.R_reads' HO236.out).2.1); (case side5 => exact far_slice (IsS57.own_ne HI0.out HO236.out (by decide))); rintro e w9 ⟨rfl, hi, hb, hk⟩; refine ⟨_, rfl, ?_⟩; replace HO236 := am (Kd.R_mono (Kd.R_keep (IsS57.apart (show IsS57 w0 _ g s0_0 t232 t233 from u55HI0) (ro HO236) (by decide)) hk (fun _ h => h.2)) (fun _ h => h.1)); replace HK := am (KeepBut.trans u55HK hk (.inl rfl)); replace HB := am (hb); replace HI0 := am (hi); clear hb hk hi))
 go_ret
 exact ⟨rf, u55HI0, u55HB, u55HK⟩

/-! ### spec_l3DrawResp: function 41 -/
theorem u41HI0 {p : Prop} (h : p := by repeat (first | (with_reducible first | exact HI0.out | apply IsS57.alloc | apply IsS57.drewN | apply IsS57.drew | apply IsS57.set_1 | apply IsS57.set_2 | apply IsS57.far (p := ⟨gb243, _, none⟩) (hne := NB0_243.out) | apply IsS57.far (p := ⟨gb258, _, none⟩) (hne := NB0_258.out)) | exact HI0.out)) : p := h
theorem u41HK {p : Prop} (h : p := by repeat (first | (with_reducible first | exact HK.out | apply KeepBut.set_ | apply keep_drewN | apply keep_drew | apply keep_alloc | refine keep_far ?_ GW243.out _ | refine keep_far ?_ GW258.out _) | exact HK.out)) : p := h
theorem u41HB {p : Prop} (h : p := by repeat (first | (with_reducible first | exact HB.out | apply below_alloc | apply pw_below_drewN | apply below_drew1 | refine below_set ?_ (IsS57.ge HI0.out) | refine below_set ?_ GE243.out | refine below_set ?_ GE258.out) | exact HB.out)) : p := h
def spec_l3DrawResp.f (k : Nat) (s0_0 : List Int) (s0_1 : Int) (s0_2 : Int) : Option (Int × (List (S46)) × ByteArray × Int × Int) := (spec_l1PickInt.f s0_0 s0_1 s0_2 (([200, 200, 200, 200, 404, 500, 304] : List Int))).bind fun bt247 => ((spec_l2DrawRight.f k s0_0 bt247.2.1 bt247.2.2).bind fun bt250 => ((spec_l3DrawBody.f k s0_0 bt250.2.1 bt250.2.2).bind fun bt255 => ((spec_l1Once.f s0_0 bt255.2.1 bt255.2.2 2).bind fun bt259 => (if bt259.1 = true then ((spec_l1Pick.f s0_0 bt259.2.1 bt259.2.2 (([(⟨#[109, 97, 120, 45, 97, 103, 101, 61, 53]⟩ : ByteArray), (⟨#[109, 97, 120, 45, 97, 103, 101, 61, 50, 48]⟩ : ByteArray), (⟨#[109, 97, 120, 45, 97, 103, 101, 61, 57]⟩ : ByteArray)] : List ByteArray))).bind fun bt265 => ((spec_Put.f k bt250.1 (⟨#[99, 97, 99, 104, 101, 45, 99, 111, 110, 116, 114, 111, 108]⟩ : ByteArray) bt265.1).bind fun t268 => (some (bt247.1, t268, bt255.1, bt265.2.1, bt265.2.2)))) else (some (bt247.1, bt250.1, bt255.1, bt259.2.1, bt259.2.2))))))
theorem spec_l3DrawResp.mono : ∀ a0 a1 a2 k, LeO (spec_l3DrawResp.f k a0 a1 a2) (spec_l3DrawResp.f (k + 1) a0 a1 a2) := by
 intro a0 a1 a2 k
 unfold spec_l3DrawResp.f
 have m0 := @spec_Put.mono
 have m1 := @spec_l2DrawRight.mono
 have m2 := @spec_l3DrawBody.mono
 exact mo
def spec_l3DrawResp.T3 : Bool × List (List Nat × List Nat) := (true, [([], []), ([0], [0]), ([], []), ([], []), ([2, 3], [2, 3]), ([1, 4, 4], [1, 4]), ([0, 1, 2, 3, 4, 5], []), ([6, 5, 5, 0, 1, 2, 3, 4, 5], [5, 6])])
def spec_l3DrawResp.B3 : List Nat := [0, 1, 0, 0, 12, 31, 63, 127]
theorem spec_l3DrawResp.tab3 : rtab .any (opsOf Tryd.f41 3) = spec_l3DrawResp.T3 := by kernel_rfl
theorem spec_l3DrawResp.bits3 : waitsOk spec_l3DrawResp.T3.2 spec_l3DrawResp.B3 = true := by kernel_rfl
set_option maxHeartbeats 8000000 in
set_option maxRecDepth 100000 in
theorem spec_l3DrawResp.calls (k : Nat) (g : Nat) (s0_0 : List Int) (s0_1 : Int) (s0_2 : Int) (r1 : Int) (r2 : List (S46)) (r3 : ByteArray) (r4 : Int) (r5 : Int) (w0 w : World) (hI : IsS57 w0 w g s0_0 s0_1 s0_2) (hB : Below w0.heap.size w0 w) (h : spec_l3DrawResp.f k s0_0 s0_1 s0_2 = some (r1, r2, r3, r4, r5)) :
  Calls Tryd.prog 41 #[.pointer (some ⟨g, 0, none⟩)] w fun e w' => ∃ v1_ : Value, e = .returned (.agg #[.int .i64 r1, v1_, .string r3]) ∧ Kd.R k46 46 w' w.heap.size (fun _ => True) v1_ r2 ∧ IsS57 w0 w' g s0_0 r4 r5 ∧ Below w0.heap.size w0 w' ∧ KeepBut w w' g none := by
 have hu32 := Tryd.underlying32
 have HI0 := am hI
 have HK := am (KeepBut.refl w g none)
 have HL := am hB.size
 clear hI
 have HW0 := am hB.size
 have HB := am hB
 clear hB
 unfold spec_l3DrawResp.f at h
 have H := h
 clear h
 obtain ⟨y244, hy244⟩ : ∃ y_ : List Int, y_ = (([200, 200, 200, 200, 404, 500, 304] : List Int)) := ⟨_, rfl⟩
 replace H : ((spec_l1PickInt.f s0_0 s0_1 s0_2 y244).bind fun bt247 => ((spec_l2DrawRight.f k s0_0 bt247.2.1 bt247.2.2).bind fun bt250 => ((spec_l3DrawBody.f k s0_0 bt250.2.1 bt250.2.2).bind fun bt255 => ((spec_l1Once.f s0_0 bt255.2.1 bt255.2.2 2).bind fun bt259 => (if bt259.1 = true then ((spec_l1Pick.f s0_0 bt259.2.1 bt259.2.2 (([(⟨#[109, 97, 120, 45, 97, 103, 101, 61, 53]⟩ : ByteArray), (⟨#[109, 97, 120, 45, 97, 103, 101, 61, 50, 48]⟩ : ByteArray), (⟨#[109, 97, 120, 45, 97, 103, 101, 61, 57]⟩ : ByteArray)] : List ByteArray))).bind fun bt265 => ((spec_Put.f k bt250.1 (⟨#[99, 97, 99, 104, 101, 45, 99, 111, 110, 116, 114, 111, 108]⟩ : ByteArray) bt265.1).bind fun t268 => (some (bt247.1, t268, bt255.1, bt265.2.1, bt265.2.2)))) else (some (bt247.1, bt250.1, bt255.1, bt259.2.1, bt259.2.2))))))) = some (r1, r2, r3, r4, r5) := by first | (rw [hy244]; with_reducible exact H) | (have H2_ := (Option.bind_some _ _).symm.trans H; rw [hy244]; with_reducible exact H2_) | (have H2_ := (Option.bind_some _ _).symm.trans H; with_reducible exact H2_) | with_reducible exact H | (rw [hy244]; exact H) | exact H
 have Ny244 := am hy244
 clear hy244
 revert H
 refine ok3 fun t247 t248 t249 A2 H => ?_
 (try dsimp only at H)
 revert H
 refine ok3 fun t250 t253 t254 A3 H => ?_
 (try dsimp only at H)
 revert H
 refine ok3 fun t255 t256 t257 A4 H => ?_
 (try dsimp only at H)
 revert H
 refine ok3 fun t259 t260 t261 A5 H => ?_
 (try dsimp only at H)
 have HH6 := am H
 clear H
 go_enter Tryd.func41, Tryd.ntmps41
 go_upto_if 13 with (first | ((with_reducible refine gw ?_); refine bx 2 #[.int .i64 0, .slice none 0 0, .string (⟨#[]⟩ : ByteArray)] 32 ?_; intro gb243 hg w7 hbox hb; have n0_ := am (IsS57.below u41HI0 hb); have n1_ := am (KeepBut.trans u41HK (KeepBut.of_below hb g none) (.inl rfl)); have n2_ := am (below_step u41HB hb); have n3_ := am (hbox); have n4_ := am ((by rw [hg]; exact (keep_size (w := w) (g := g) (row := none) u41HK) : w.heap.size ≤ gb243)); have n5_ := am ((Nat.le_trans HW0.out (by rw [hg]; exact (keep_size (w := w) (g := g) (row := none) u41HK) : w.heap.size ≤ gb243) : w0.heap.size ≤ gb243)); have n6_ := am ((by rw [hg]; exact Nat.ne_of_lt (IsS57.lt (show IsS57 w0 _ g s0_0 s0_1 s0_2 from u41HI0)) : g ≠ gb243)); have n7_ := am ((by rw [hg]; exact Nat.ne_of_gt (IsS57.lt (show IsS57 w0 _ g s0_0 s0_1 s0_2 from u41HI0)) : gb243 ≠ g)); clear HI0; clear HK; clear HB; have HI0 := n0_; have HK := n1_; have HB := n2_; have BK243 := n3_; have GW243 := n4_; have GE243 := n5_; have NB0_243 := n6_; have NB243_0 := n7_; clear n0_ n1_ n2_ n3_ n4_ n5_ n6_ n7_; clear hb hbox hg) | ((with_reducible refine gate_dst (N := 5) rfl ?_); refine Kd.R_lit (Kd.int .i64) _ 3 ?hg (N := 5) ?hd (xs := ([200, 200, 200, 200, 404, 500, 304] : List Int)) (inner := [.int .i64 200, .int .i64 200, .int .i64 200, .int .i64 200, .int .i64 404, .int .i64 500, .int .i64 304]) (ok := fun _ => True) (okp := fun _ => True) ?hr ?hp (fun _ hk => hk) trivial (Below.refl _ _) (Nat.le_refl _) (by simp) ?_; (case hd => rfl); (case hg => rfl); (case hr => first | (go_simp; done) | (go_simp; rfl)); (case hp => exact rp); intro v245 w8 ho9 hb hg_ hnew_; clear hg_ hnew_; (first | rw [← Ny244.out] at ho9 | (simp only [Int.reduceToNat] at ho9; rw [← Ny244.out] at ho9)); have HO246 := am (Kd.R_lower ho9 (keep_size (w := w) (g := g) (row := none) u41HK)); replace BK243 := kb BK243 hb; replace HK := am (KeepBut.trans u41HK (KeepBut.of_below hb g none) (.inl rfl)); replace HB := am (below_step u41HB hb); replace HI0 := am (IsS57.below u41HI0 hb); clear hb ho9; obtain ⟨Ao10, co10, eo10⟩ := Kd.R_slice HO246.out; subst eo10) | ((with_reducible refine gw ?_); refine gl 6 Tryd.func42 #[.pointer (some ⟨g, 0, none⟩), .slice Ao10 y244.length co10] ?_; (with_reducible refine (spec_l1PickInt.calls g s0_0 s0_1 s0_2 _ _ y244 t247 t248 t249 w0 _ ?side1 ?side2 ?side3 ?side4 ?side5 A2.out).mono ?_); (case side1 => exact u41HI0); (case side2 => exact u41HB); (case side3 => exact rc HO246); (case side4 => exact (Kd.R_reads' HO246.out).2.1); (case side5 => exact far_slice (IsS57.own_ne HI0.out HO246.out (by decide))); rintro e w11 ⟨rfl, hi, hb, hk⟩; refine ⟨_, rfl, ?_⟩; replace BK243 := kp BK243 hk NB243_0; replace HO246 := am (Kd.R_mono (Kd.R_keep (IsS57.apart (show IsS57 w0 _ g s0_0 s0_1 s0_2 from u41HI0) (ro HO246) (by decide)) hk (fun _ h => h.2)) (fun _ h => h.1)); replace HK := am (KeepBut.trans u41HK hk (.inl rfl)); replace HB := am (hb); replace HI0 := am (hi); clear hb hk hi) | ((with_reducible refine gw ?_); refine gl 8 Tryd.func54 #[.pointer (some ⟨g, 0, none⟩)] ?_; (with_reducible refine (spec_l2DrawRight.calls k g s0_0 t248 t249 t250 t253 t254 w0 _ ?side1 ?side2 A3.out).mono ?_); (case side1 => exact u41HI0); (case side2 => exact u41HB); rintro e w12 ⟨v251, rfl, ho0, hi, hb, hk⟩; refine ⟨_, rfl, ?_⟩; replace BK243 := kp BK243 hk NB243_0; replace HO246 := am (Kd.R_mono (Kd.R_keep (IsS57.apart (show IsS57 w0 _ g s0_0 t248 t249 from u41HI0) (ro HO246) (by decide)) hk (fun _ h => h.2)) (fun _ h => h.1)); have HO252 := am (Kd.R_lower ho0 (keep_size (w := w) (g := g) (row := none) u41HK)); replace HK := am (KeepBut.trans u41HK hk (.inl rfl)); replace HB := am (hb); replace HI0 := am (hi); clear hb hk hi ho0) | ((with_reducible refine gw ?_); refine gl 10 Tryd.func55 #[.pointer (some ⟨g, 0, none⟩)] ?_; (with_reducible refine (spec_l3DrawBody.calls k g s0_0 t253 t254 t255 t256 t257 w0 _ ?side1 ?side2 A4.out).mono ?_); (case side1 => exact u41HI0); (case side2 => exact u41HB); rintro e w13 ⟨rfl, hi, hb, hk⟩; refine ⟨_, rfl, ?_⟩; replace BK243 := kp BK243 hk NB243_0; replace HO246 := am (Kd.R_mono (Kd.R_keep (IsS57.apart (show IsS57 w0 _ g s0_0 t253 t254 from u41HI0) (ro HO246) (by decide)) hk (fun _ h => h.2)) (fun _ h => h.1)); replace HO252 := am (Kd.R_mono (Kd.R_keep (IsS57.apart (show IsS57 w0 _ g s0_0 t253 t254 from u41HI0) (ro HO252) (by decide)) hk (fun _ h => h.2)) (fun _ h => h.1)); replace HK := am (KeepBut.trans u41HK hk (.inl rfl)); replace HB := am (hb); replace HI0 := am (hi); clear hb hk hi; obtain ⟨Ao14, co14, eo14⟩ := Kd.R_slice HO252.out; subst eo14) | ((with_reducible refine gw ?_); refine bx 3 #[.int .i64 0, .slice none 0 0, .string (⟨#[]⟩ : ByteArray)] 32 ?_; intro gb258 hg w15 hbox hb; have n0_ := am (Kd.R_below (ro HO246) hb); have n1_ := am (Kd.R_below (ro HO252) hb); have n2_ := am (IsS57.below u41HI0 hb); have n3_ := kb BK243 hb; have n4_ := am (KeepBut.trans u41HK (KeepBut.of_below hb g none) (.inl rfl)); have n5_ := am (below_step u41HB hb); have n6_ := am (hbox); have n7_ := am ((by rw [hg]; exact (keep_size (w := w) (g := g) (row := none) u41HK) : w.heap.size ≤ gb258)); have n8_ := am ((Nat.le_trans HW0.out (by rw [hg]; exact (keep_size (w := w) (g := g) (row := none) u41HK) : w.heap.size ≤ gb258) : w0.heap.size ≤ gb258)); have n9_ := am (nl hg BK243 : gb243 ≠ gb258); have n10_ := am (ng hg BK243 : gb258 ≠ gb243); have n11_ := am ((by rw [hg]; exact Nat.ne_of_lt (IsS57.lt (show IsS57 w0 _ g s0_0 t256 t257 from u41HI0)) : g ≠ gb258)); have n12_ := am ((by rw [hg]; exact Nat.ne_of_gt (IsS57.lt (show IsS57 w0 _ g s0_0 t256 t257 from u41HI0)) : gb258 ≠ g)); clear HO246; clear HO252; clear HI0; clear BK243; clear HK; clear HB; have HO246 := n0_; have HO252 := n1_; have HI0 := n2_; have BK243 := n3_; have HK := n4_; have HB := n5_; have BK258 := n6_; have GW258 := n7_; have GE258 := n8_; have NB243_258 := n9_; have NB258_243 := n10_; have NB0_258 := n11_; have NB258_0 := n12_; clear n0_ n1_ n2_ n3_ n4_ n5_ n6_ n7_ n8_ n9_ n10_ n11_ n12_; clear hb hbox hg; have hnb16 := NB258_243.out; have hnc16 := NB243_258.out; have hnb17 := NB258_0.out; have hnc17 := NB0_258.out; obtain ⟨z18_0, y18_0, z18_1, y18_1, z18_2, y18_2⟩ := cl3 BK258) | ((with_reducible refine gw ?_); refine gl 13 Tryd.func19 #[.pointer (some ⟨g, 0, none⟩), .int .i64 2] ?_; (with_reducible refine (spec_l1Once.calls g s0_0 t256 t257 2 t259 t260 t261 w0 _ ?side1 ?side2 A5.out).mono ?_); (case side1 => exact u41HI0); (case side2 => exact u41HB); rintro e w19 ⟨rfl, hi, hb, hk⟩; refine ⟨_, rfl, ?_⟩; replace BK243 := am (KeepBut.blk hk (g' := gb243) (o := .cells #[.int .i64 0, .slice none 0 0, .string (⟨#[]⟩ : ByteArray)] 32 (0, 0)) (bg1 BK243 NB243_258) NB243_0.out (by simp)); replace HO246 := am (Kd.R_mono (Kd.R_keep (IsS57.apart (show IsS57 w0 _ g s0_0 t256 t257 from u41HI0) (rj (Kd.R_types HO246.out BK258.out (by decide)) (fun _ h_ => h_.1)) (by decide)) hk (fun _ h => h.2)) (fun _ h => h.1)); replace HO252 := am (Kd.R_mono (Kd.R_keep (IsS57.apart (show IsS57 w0 _ g s0_0 t256 t257 from u41HI0) (rj (Kd.R_types HO252.out BK258.out (by decide)) (fun _ h_ => h_.1)) (by decide)) hk (fun _ h => h.2)) (fun _ h => h.1)); replace BK258 := am (KeepBut.blk hk (g' := gb258) (o := .cells #[.int .i64 t247, .slice Ao14 t250.length co14, .string t255] 32 (0, 0)) (pt0 BK258) NB258_0.out (by simp)); replace HK := am (KeepBut.trans u41HK hk (.inl rfl)); replace HB := am (hb); replace HI0 := am (hi); clear hb hk hi))
 have H := HH6.out
 clear HH6
 by_cases c20 : t259 = true
 rotate_left
 ·replace c20 := Bool.eq_false_iff.mpr c20
  subst c20
  rw [if_neg (show ¬ (false = true) by decide)] at H
  simp only [Option.some.injEq, Prod.mk.injEq] at H
  obtain ⟨rfl, rfl, rfl, rfl, rfl⟩ := H
  have hnb36 := NB258_243.out
  have hnc36 := NB243_258.out
  have hnb37 := NB258_0.out
  have hnc37 := NB0_258.out
  obtain ⟨z38_0, y38_0, z38_1, y38_1, z38_2, y38_2⟩ := cl3 BK258
  have hnb39 := NB243_0.out
  have hnc39 := NB0_243.out
  obtain ⟨z40_0, y40_0, z40_1, y40_1, z40_2, y40_2⟩ := cl3 BK243
  go_wp2
  refine bodyPost_ret (results_cell_row rfl _ _ gb243 32 #[.int .i64 t247, .slice Ao14 t250.length co14, .string t255] (0, 0) _ rfl (pt0 BK243) Tryd.underlying32 rfl (by kernel_rfl)) rfl ?_
  exact ⟨_, rf, rj (Kd.R_types HO252.out BK243.out (by decide)) (fun _ hk => trivial), u41HI0, u41HB, u41HK⟩
 subst c20
 rw [if_pos rfl] at H
 obtain ⟨y262, hy262⟩ : ∃ y_ : List ByteArray, y_ = (([(⟨#[109, 97, 120, 45, 97, 103, 101, 61, 53]⟩ : ByteArray), (⟨#[109, 97, 120, 45, 97, 103, 101, 61, 50, 48]⟩ : ByteArray), (⟨#[109, 97, 120, 45, 97, 103, 101, 61, 57]⟩ : ByteArray)] : List ByteArray)) := ⟨_, rfl⟩
 replace H : ((spec_l1Pick.f s0_0 t260 t261 y262).bind fun bt265 => ((spec_Put.f k t250 (⟨#[99, 97, 99, 104, 101, 45, 99, 111, 110, 116, 114, 111, 108]⟩ : ByteArray) bt265.1).bind fun t268 => (some (t247, t268, t255, bt265.2.1, bt265.2.2)))) = some (r1, r2, r3, r4, r5) := by first | (rw [hy262]; with_reducible exact H) | (have H2_ := (Option.bind_some _ _).symm.trans H; rw [hy262]; with_reducible exact H2_) | (have H2_ := (Option.bind_some _ _).symm.trans H; with_reducible exact H2_) | with_reducible exact H | (rw [hy262]; exact H) | exact H
 have Ny262 := am hy262
 clear hy262
 revert H
 refine ok3 fun t265 t266 t267 A21 H => ?_
 (try dsimp only at H)
 revert H
 refine ok1 fun t268 A22 H => ?_
 simp only [Option.some.injEq, Prod.mk.injEq] at H
 obtain ⟨rfl, rfl, rfl, rfl, rfl⟩ := H
 try go_wp2
 replace HO246 := am (Kd.R_drew HO246.out)
 replace HO252 := am (Kd.R_drew HO252.out)
 replace BK243 := am (blk_drew BK243.out)
 replace BK258 := am (blk_drew BK258.out)
 replace HI0 := am (IsS57.drew HI0.out)
 replace HK := am (keep_drew HK.out)
 replace HB := am (below_drew1 HB.out)
 refine start_ (n := 8) (S := fun w' => w'.cell? ⟨gb258, 0, none⟩ = some (.int .i64 t247) ∧ w'.cell? ⟨gb258, 1, none⟩ = some (.slice Ao14 t250.length co14) ∧ w'.cell? ⟨gb258, 2, none⟩ = some (.string t255)) (ds := [7]) ⟨br true [0, 8]⟩ (by kernel_rfl) rfl (by kernel_rfl) ⟨bc BK258, bc BK258, bc BK258⟩ (fun hHeld => ?_); refine with_tabW spec_l3DrawResp.tab3 spec_l3DrawResp.bits3 (fun HT_ HW_ => ?_)
 generalize w19.drew = w23 at HO246 HO252 BK243 BK258 HI0 HK HB hHeld ⊢
 refine pu 0 14 [1, 7] ?_
 refine pu 2 16 [1, 1, 1, 5] ?_
 refine tk 1 15 [3, 5] ?_
 refine one_ (i := 3) (N := some 17) #[true, true, true, true, false, false, false, false] rfl rfl (one_of HT_.out (by kernel_rfl)) (by decide) (fun K hK => ?_)
 refine Kd.R_lit_step Kd.string _ 9 ?hg (N := 17) ?hd (xs := ([(⟨#[109, 97, 120, 45, 97, 103, 101, 61, 53]⟩ : ByteArray), (⟨#[109, 97, 120, 45, 97, 103, 101, 61, 50, 48]⟩ : ByteArray), (⟨#[109, 97, 120, 45, 97, 103, 101, 61, 57]⟩ : ByteArray)] : List ByteArray)) (inner := [.string (⟨#[109, 97, 120, 45, 97, 103, 101, 61, 53]⟩ : ByteArray), .string (⟨#[109, 97, 120, 45, 97, 103, 101, 61, 50, 48]⟩ : ByteArray), .string (⟨#[109, 97, 120, 45, 97, 103, 101, 61, 57]⟩ : ByteArray)]) (ok := fun _ => True) (okp := fun _ => True) ?hr ?hp (fun _ hk => hk) trivial (Below.refl _ _) (Nat.le_refl _) (by simp) ?_; (case hd => rfl); (case hg => rfl); (case hr => first | (go_simp; done) | (go_simp; rfl)); (case hp => exact rp)
 intro v263 w24 ho25 hb hg_ hnew_
 clear hg_ hnew_
 (first | rw [← Ny262.out] at ho25 | (simp only [Int.reduceToNat] at ho25; rw [← Ny262.out] at ho25))
 replace HO246 := kr HO246 hb
 replace HO252 := kr HO252 hb
 have HO264 := am (Kd.R_lower ho25 (keep_size (w := w) (g := g) (row := none) u41HK))
 replace BK243 := kb BK243 hb
 replace BK258 := kb BK258 hb
 replace HK := am (KeepBut.trans u41HK (KeepBut.of_below hb g none) (.inl rfl))
 replace HB := am (below_step u41HB hb)
 replace HI0 := am (IsS57.below u41HI0 hb)
 clear hb ho25
 obtain ⟨Ao26, co26, eo26⟩ := Kd.R_slice HO264.out
 (first | subst eo26 | (injection eo26 with f1_ f2_ f3_; have f4_ := f1_.symm; have f5_ := f3_.symm; clear f1_ f2_ f3_; subst f4_; subst f5_))
 refine hK.out _ _ ⟨bc BK258, bc BK258, bc BK258⟩ (fun hHeld => ?_)
 clear hK K
 refine nm 17 ?_
 refine og 4 18 [5, 3] Tryd.func50 #[.pointer (some ⟨g, 0, none⟩), .slice Ao26 y262.length co26] (fun K hK => ?_)
 with_reducible refine (spec_l1Pick.calls g s0_0 t260 t261 _ _ y262 t265 t266 t267 w0 _ ?side1 ?side2 ?side3 ?side4 ?side5 A21.out).mono ?_
 (case side1 => exact u41HI0)
 (case side2 => exact u41HB)
 (case side3 => exact rc HO264)
 (case side4 => exact (Kd.R_reads' HO264.out).2.1)
 (case side5 => exact far_slice (IsS57.own_ne HI0.out HO264.out (by decide)))
 rintro e w27 ⟨rfl, hi, hb, hk⟩
 refine ⟨_, rfl, ?_⟩
 replace BK243 := kp BK243 hk NB243_0
 replace HO246 := am (Kd.R_mono (Kd.R_keep (IsS57.apart (show IsS57 w0 _ g s0_0 t260 t261 from u41HI0) (ro HO246) (by decide)) hk (fun _ h => h.2)) (fun _ h => h.1))
 replace HO252 := am (Kd.R_mono (Kd.R_keep (IsS57.apart (show IsS57 w0 _ g s0_0 t260 t261 from u41HI0) (ro HO252) (by decide)) hk (fun _ h => h.2)) (fun _ h => h.1))
 replace BK258 := kp BK258 hk NB258_0
 replace HO264 := am (Kd.R_mono (Kd.R_keep (IsS57.apart (show IsS57 w0 _ g s0_0 t260 t261 from u41HI0) (ro HO264) (by decide)) hk (fun _ h => h.2)) (fun _ h => h.1))
 replace HK := am (KeepBut.trans u41HK hk (.inl rfl))
 replace HB := am (hb)
 replace HI0 := am (hi)
 clear hb hk hi
 refine hK.out _ _ ⟨bc BK258, bc BK258, bc BK258⟩ (fun hHeld => ?_)
 clear hK K
 refine nm 18 ?_
 refine og 5 19 [6, 2] Tryd.func26 #[.slice Ao14 t250.length co14, .string (⟨#[99, 97, 99, 104, 101, 45, 99, 111, 110, 116, 114, 111, 108]⟩ : ByteArray), .string t265] (fun K hK => ?_)
 with_reducible refine (spec_Put.calls k _ _ t250 (⟨#[99, 97, 99, 104, 101, 45, 99, 111, 110, 116, 114, 111, 108]⟩ : ByteArray) t265 t268 _ ?side1 ?side2 A22.out).mono ?_
 (case side1 => exact rc HO252)
 (case side2 => exact (Kd.R_reads' HO252.out).2.1)
 rintro e w28 ⟨v269, rfl, ho0, hb⟩
 refine ⟨_, rfl, ?_⟩
 replace HO246 := kr HO246 hb
 replace HO264 := kr HO264 hb
 have HO270 := am (Kd.R_lower (Kd.R_new' ho0 (Kd.R_lt (ro HO252))) (keep_size (w := w) (g := g) (row := none) u41HK))
 replace HO252 := am (Kd.R_elder' (ro HO252) (Kd.R_base ho0) hb)
 replace BK243 := kb BK243 hb
 replace BK258 := kb BK258 hb
 replace HK := am (KeepBut.trans u41HK (KeepBut.of_below hb g none) (.inl rfl))
 replace HB := am (below_step u41HB hb)
 replace HI0 := am (IsS57.below u41HI0 hb)
 clear hb ho0
 obtain ⟨Ao29, co29, eo29⟩ := Kd.R_slice HO270.out
 (first | subst eo29 | (injection eo29 with f1_ f2_ f3_; have f4_ := f1_.symm; have f5_ := f3_.symm; clear f1_ f2_ f3_; subst f4_; subst f5_))
 refine hK.out _ _ ⟨bc BK258, bc BK258, bc BK258⟩ (fun hHeld => ?_)
 clear hK K
 refine nm 19 ?_
 refine pu 6 20 [7, 1] ?_
 refine last_ (i := 7) (N := none) #[true, true, true, true, true, true, true, true] rfl rfl (one_of HT_.out (by kernel_rfl)) (by decide) (fun K hK => ?_)
 have hs30 : w28.cell? ⟨gb258, 1, none⟩ = some (.slice Ao14 t250.length co14) := bc BK258
 have hfs30 := blk_frozen BK258.out 1
 have hns30_0 := NB243_258.out
 have hms30_0 := NB258_243.out
 refine skip_ (w1 := ?_) (by rfl) rfl ?_ ?_
 rotate_left
 ·go_simp
  rfl
 refine hK.out _ _ ?_
 clear hK K
 refine done_ (done_of HT_.out (by kernel_rfl)) ?_
 have hnb31 := NB258_243.out
 have hnc31 := NB243_258.out
 have hnb32 := NB258_0.out
 have hnc32 := NB0_258.out
 obtain ⟨z33_0, y33_0, z33_1, y33_1, z33_2, y33_2⟩ := cl3 BK258
 have hnb34 := NB243_0.out
 have hnc34 := NB0_243.out
 obtain ⟨z35_0, y35_0, z35_1, y35_1, z35_2, y35_2⟩ := cl3 BK243
 try go_wp2
 refine bodyPost_ret (results_cell_row rfl _ _ gb243 32 #[.int .i64 t247, .slice Ao29 t268.length co29, .string t255] (0, 0) _ rfl (pt1 BK243 NB243_258) Tryd.underlying32 rfl (by kernel_rfl)) rfl ?_
 exact ⟨_, rf, rj (Kd.R_types (Kd.R_types HO270.out BK258.out (by decide)) BK243.out (by decide)) (fun _ hk => trivial), u41HI0, u41HB, u41HK⟩

/-! ### spec_l1In: function 35 -/
def spec_l1In.f (a0 : Int) (a1 : Int) (a2 : Int) : Option (Bool) := if a0 ≥ a1 then (some (decide (a0 ≤ a2))) else (some false)
set_option maxHeartbeats 8000000 in
set_option maxRecDepth 100000 in
theorem spec_l1In.calls (a0 : Int) (a1 : Int) (a2 : Int) (r : Bool) (w : World) (h : spec_l1In.f a0 a1 a2 = some r) :
  Calls Tryd.prog 35 #[.int .i64 a0, .int .i64 a1, .int .i64 a2] w fun e w' => e = .returned (.bool r) ∧ Drawn0 w w' := by
 unfold spec_l1In.f at h
 have H := h
 clear h
 by_cases c4 : a0 ≥ a1
 ·rw [if_pos c4] at H
  have c4b0 := decide_eq_true c4
  clear c4
  obtain rfl := Option.some.inj H
  go_enter Tryd.func35, Tryd.ntmps35
  go_wp2
  go_ret
  exact ⟨rs, dr⟩
 rw [if_neg c4] at H
 have c4b0 := decide_eq_false c4
 clear c4
 obtain rfl := Option.some.inj H
 go_enter Tryd.func35, Tryd.ntmps35
 go_wp2
 go_ret
 exact ⟨rs, dr⟩

/-! ### spec_NumText: function 20 -/
theorem u20HB {p : Prop} (h : p := by repeat (first | (with_reducible first | exact HB.out | apply below_alloc | apply pw_below_drewN | apply below_drew1) | exact HB.out)) : p := h
def spec_NumText.l0 : Nat → Int → ByteArray → Option (ByteArray)
 | 0, _, _ => none
 | k + 1, x0, x3 => if x0 > 0 then ((some (([(wrap64 (48 + (Int.tmod x0 10))) % 256] : List Int) : List Int)).bind fun y272 => (if (strOfNums y272).size + x3.size ≤ 9223372036854775807 then (spec_NumText.l0 k (wrap64 (Int.tdiv x0 10)) ((strOfNums y272) ++ x3)) else (none))) else (some x3)
def spec_NumText.f (k : Nat) (a0 : Int) : Option (ByteArray) := (spec_l1In.f a0 0 1000000).bind fun t271 => (if t271 = true then (if a0 = 0 then (some (⟨#[48]⟩ : ByteArray)) else (spec_NumText.l0 k a0 (⟨#[]⟩ : ByteArray))) else (some (⟨#[]⟩ : ByteArray)))
theorem spec_NumText.mono_l : ∀ k, (∀ y0 y1, LeO (spec_NumText.l0 k y0 y1) (spec_NumText.l0 (k + 1) y0 y1))
 | 0 => fun _ _ r h => by simp [spec_NumText.l0] at h
 | k + 1 => by
  have ih0 := spec_NumText.mono_l k
  ·intro y0 y1
   unfold spec_NumText.l0
   exact mo
theorem spec_NumText.mono : ∀ a0 k, LeO (spec_NumText.f k a0) (spec_NumText.f (k + 1) a0) := by
 intro a0 k
 have ih0 := spec_NumText.mono_l k
 unfold spec_NumText.f
 exact mo
set_option maxHeartbeats 8000000 in
set_option maxRecDepth 100000 in
theorem spec_NumText.calls (k : Nat) (a0 : Int) (r : ByteArray) (w : World) (h : spec_NumText.f k a0 = some r) :
  Calls Tryd.prog 20 #[.int .i64 a0] w fun e w' => e = .returned (.string r) ∧ Below w.heap.size w w' := by
 have HB := am (Below.refl w.heap.size w)
 unfold spec_NumText.f at h
 have H := h
 clear h
 revert H
 refine ok1 fun t271 A2 H => ?_
 have HH3 := am H
 clear H
 go_enter Tryd.func20, Tryd.ntmps20
 go_upto_if 6 with ((with_reducible refine gw ?_); first | (refine gl 5 Tryd.func35 #[.int .i64 a0, .int .i64 0, .int .i64 1000000] ?_; (with_reducible refine (spec_l1In.calls a0 0 1000000 t271 _ A2.out).mono ?_); rintro e w' ⟨rfl, ⟨nd, rfl⟩⟩; refine ⟨_, rfl, ?_⟩))
 have H := HH3.out
 clear HH3
 by_cases c4 : t271 = true
 rotate_left
 ·replace c4 := Bool.eq_false_iff.mpr c4
  subst c4
  rw [if_neg (show ¬ (false = true) by decide)] at H
  obtain rfl := Option.some.inj H
  go_wp2
  go_ret
  exact ⟨rf, bl⟩
 subst c4
 rw [if_pos rfl] at H
 by_cases c5 : a0 = 0
 ·rw [if_pos c5] at H
  have c5b0 : (a0 == 0) = true := beq_iff_eq.mpr c5
  have c5b1 : (a0 != 0) = false := bne_eq_false_iff_eq.mpr c5
  clear c5
  (first | rw [c5b0] | (simp only [i64_w, i32_w]; rw [c5b0]) | skip)
  obtain rfl := Option.some.inj H
  go_wp2
  go_ret
  exact ⟨rf, bl⟩
 rw [if_neg c5] at H
 have c5b0 : (a0 == 0) = false := beq_eq_false_iff_ne.mpr c5
 have c5b1 : (a0 != 0) = true := bne_iff_ne.mpr c5
 (first | rw [c5b0] | (simp only [i64_w, i32_w]; rw [c5b0]) | skip)
 have H' := am H
 clear H
 go_wp2
 (try simp only [Act.put, List.setIfInBounds_toArray, List.set_cons_zero, List.set_cons_succ])
 go_loopg [0, 3] k (fun kq v0 v3 w' => ∃ (x0_1 : Int) (x3_1 : ByteArray), v0 = .int .i64 x0_1 ∧ v3 = .string x3_1 ∧ Aside0 (spec_NumText.l0 kq x0_1 x3_1 = some r) ∧ Aside0 (kq ≤ k) ∧ Aside0 (Below w.heap.size w w'))
 case atStart => exact ⟨(a0), ((⟨#[]⟩ : ByteArray)), rs, rs, H', ⟨Nat.le_refl _⟩, ⟨u20HB⟩⟩
 case round =>
  clear H'
  try clear c2
  try clear p2
  try clear c3
  try clear c4
  try clear c5
  try clear c5b0
  try clear c5b1
  obtain ⟨x0_1, x3_1, rfl, rfl, HA, HK1, HB⟩ := hrel
  cases gk with
  | zero => exact absurd HA.out (by simp [spec_NumText.l0])
  | succ k1 =>
   have H := HA.out
   clear HA
   simp only [spec_NumText.l0] at H
   by_cases c6 : x0_1 > 0
   rotate_left
   ·rw [if_neg c6] at H
    have c6b0 := decide_eq_false c6
    clear c6
    obtain rfl := Option.some.inj H
    go_wp2
    go_ret
    exact ⟨rf, bl⟩
   rw [if_pos c6] at H
   have c6b0 := decide_eq_true c6
   clear c6
   obtain ⟨y272, hy272⟩ : ∃ y_ : List Int, y_ = (([(wrap64 (48 + (Int.tmod x0_1 10))) % 256] : List Int)) := ⟨_, rfl⟩
   replace H : (if (strOfNums y272).size + x3_1.size ≤ 9223372036854775807 then (spec_NumText.l0 k1 (wrap64 (Int.tdiv x0_1 10)) ((strOfNums y272) ++ x3_1)) else (none)) = some r := by first | (rw [hy272]; with_reducible exact H) | (have H2_ := (Option.bind_some _ _).symm.trans H; rw [hy272]; with_reducible exact H2_) | (have H2_ := (Option.bind_some _ _).symm.trans H; with_reducible exact H2_) | with_reducible exact H | (rw [hy272]; exact H) | exact H
   have Ny272 := am hy272
   clear hy272
   revert H
   refine ifn fun c7 H => ?_
   have c7b0 := eq_true c7
   have c7b1 := decide_eq_true c7
   try have c7b2 := eq_false (Nat.not_lt.2 c7)
   have H' := am H
   clear H
   go_wp2_with (first | ((with_reducible refine gate_dst (N := 15) rfl ?_); refine Kd.R_lit (Kd.int .u8) _ 5 ?hg (N := 15) ?hd (xs := ([(wrap64 (48 + (Int.tmod x0_1 10))) % 256] : List Int)) (inner := [.int .u8 ((wrap64 (48 + (Int.tmod x0_1 10))) % 256)]) (ok := fun _ => True) (okp := fun _ => True) ?hr ?hp (fun _ hk => hk) trivial (Below.refl _ _) (Nat.le_refl _) (by simp) ?_; (case hd => rfl); (case hg => rfl); (case hr => first | (go_simp; done) | (go_simp; rfl)); (case hp => exact rp); intro v273 w8 ho9 hb hg_ hnew_; clear hg_ hnew_; (first | rw [← Ny272.out] at ho9 | (simp only [Int.reduceToNat] at ho9; rw [← Ny272.out] at ho9)); have HO274 := am (Kd.R_lower ho9 (below_size bl)); replace HB := am (below_step bl hb); clear hb ho9; have hcv10 := own_string (P := Tryd.prog) Tryd.underlying22 Tryd.underlying5 Tryd.underlying9 (Kd.own_of_R HO274.out)))
   go_roundg k1
   case measure => have := HK1.out; omega
   case rel => exact ⟨(wrap64 (Int.tdiv x0_1 10)), ((strOfNums y272) ++ x3_1), rs, rs, H', ⟨by have := HK1.out; omega⟩, ⟨u20HB⟩⟩

/-! ### spec_l2Draw: function 43 -/
theorem u43HI0 {p : Prop} (h : p := by repeat (first | (with_reducible first | exact HI0.out | apply IsS57.alloc | apply IsS57.drewN | apply IsS57.drew | apply IsS57.set_1 | apply IsS57.set_2) | exact HI0.out)) : p := h
theorem u43HB {p : Prop} (h : p := by repeat (first | (with_reducible first | exact HB.out | apply below_alloc | apply pw_below_drewN | apply below_drew1 | refine below_set ?_ (IsS57.ge HI0.out)) | exact HB.out)) : p := h
theorem u43HK {p : Prop} (h : p := by repeat (first | (with_reducible first | exact HK.out | apply KeepBut.set_ | apply keep_drewN | apply keep_drew | apply keep_alloc) | exact HK.out)) : p := h
def spec_l2Draw.l0 : Nat → List (S46) → List Int → Int → Int → Option ((List (S46)) × Int × Int)
 | 0, _, _, _, _ => none
 | k + 1, x3, x1000, x1001, x1002 => (spec_l1Below.f x1000 x1001 x1002 2).bind fun bt312 => (if (x3.length : Int) < (wrap64 (8 + bt312.1)) then ((spec_NumText.f k (x3.length : Int)).bind fun t315 => (if 1 + t315.size ≤ 9223372036854775807 then (if x3.length < 4398046511104 then (spec_l2Draw.l0 k (x3 ++ [(⟨(⟨#[110]⟩ : ByteArray) ++ t315, (⟨#[118]⟩ : ByteArray)⟩ : S46)]) x1000 bt312.2.1 bt312.2.2) else (none)) else (none))) else (some (x3, bt312.2.1, bt312.2.2)))
def spec_l2Draw.f (k : Nat) (s0_0 : List Int) (s0_1 : Int) (s0_2 : Int) : Option ((List (S46)) × Int × Int) := (spec_l2DrawRight.f k s0_0 s0_1 s0_2).bind fun bt275 => ((spec_l1Below.f s0_0 bt275.2.1 bt275.2.2 15).bind fun bt280 => (if bt280.1 = 0 then ((spec_l2DrawField.f s0_0 bt280.2.1 bt280.2.2).bind fun bt283 => ((spec_l2DrawField.f s0_0 bt283.2.2.1 bt283.2.2.2).bind fun bt287 => ((some (([(⟨bt283.1, bt283.2.1⟩ : S46), (⟨bt287.1, bt287.2.1⟩ : S46)] : List (S46)) : List (S46))).bind fun y291 => (if bt275.1.length + y291.length < 4398046511104 then (some ((bt275.1 ++ y291), bt287.2.2.1, bt287.2.2.2)) else (none))))) else (if bt280.1 = 1 then ((spec_l1Pick.f s0_0 bt280.2.1 bt280.2.2 (([(⟨#[]⟩ : ByteArray), (⟨#[65]⟩ : ByteArray), (⟨#[99, 111, 110, 116, 101, 110, 116, 45, 108, 101, 110, 103, 116, 104]⟩ : ByteArray)] : List ByteArray))).bind fun bt300 => ((spec_l1Pick.f s0_0 bt300.2.1 bt300.2.2 (([(⟨#[]⟩ : ByteArray), (⟨#[32, 97]⟩ : ByteArray), (⟨#[49]⟩ : ByteArray)] : List ByteArray))).bind fun bt306 => (if bt275.1.length < 4398046511104 then (some ((bt275.1 ++ [(⟨bt300.1, bt306.1⟩ : S46)]), bt306.2.1, bt306.2.2)) else (none)))) else (if bt280.1 = 2 then (spec_l2Draw.l0 k bt275.1 s0_0 bt280.2.1 bt280.2.2) else (some (bt275.1, bt280.2.1, bt280.2.2))))))
theorem spec_l2Draw.mono_l : ∀ k, (∀ y0 y1 y2 y3, LeO (spec_l2Draw.l0 k y0 y1 y2 y3) (spec_l2Draw.l0 (k + 1) y0 y1 y2 y3))
 | 0 => fun _ _ _ _ r h => by simp [spec_l2Draw.l0] at h
 | k + 1 => by
  have ih0 := spec_l2Draw.mono_l k
  ·intro y0 y1 y2 y3
   unfold spec_l2Draw.l0
   have m0 := @spec_NumText.mono
   have m1 := @spec_l2DrawRight.mono
   exact mo
theorem spec_l2Draw.mono : ∀ a0 a1 a2 k, LeO (spec_l2Draw.f k a0 a1 a2) (spec_l2Draw.f (k + 1) a0 a1 a2) := by
 intro a0 a1 a2 k
 have ih0 := spec_l2Draw.mono_l k
 unfold spec_l2Draw.f
 have m0 := @spec_NumText.mono
 have m1 := @spec_l2DrawRight.mono
 exact mo
set_option maxHeartbeats 8000000 in
set_option maxRecDepth 100000 in
theorem spec_l2Draw.calls (k : Nat) (g : Nat) (s0_0 : List Int) (s0_1 : Int) (s0_2 : Int) (r1 : List (S46)) (r2 : Int) (r3 : Int) (w0 w : World) (hI : IsS57 w0 w g s0_0 s0_1 s0_2) (hB : Below w0.heap.size w0 w) (h : spec_l2Draw.f k s0_0 s0_1 s0_2 = some (r1, r2, r3)) :
  Calls Tryd.prog 43 #[.pointer (some ⟨g, 0, none⟩)] w fun e w' => ∃ v0_ : Value, e = .returned (v0_) ∧ Kd.R k46 46 w' w.heap.size (fun _ => True) v0_ r1 ∧ IsS57 w0 w' g s0_0 r2 r3 ∧ Below w0.heap.size w0 w' ∧ KeepBut w w' g none := by
 have hu46 := Tryd.underlying46
 have HI0 := am hI
 have HK := am (KeepBut.refl w g none)
 have HL := am hB.size
 clear hI
 have HW0 := am hB.size
 have HB := am hB
 clear hB
 unfold spec_l2Draw.f at h
 have H := h
 clear h
 revert H
 refine ok3 fun t275 t278 t279 A2 H => ?_
 (try dsimp only at H)
 revert H
 refine ok3 fun t280 t281 t282 A3 H => ?_
 (try dsimp only at H)
 have HH4 := am H
 clear H
 go_enter Tryd.func43, Tryd.ntmps43
 go_upto_if 8 with ((with_reducible refine gw ?_); first | (refine gl 5 Tryd.func54 #[.pointer (some ⟨g, 0, none⟩)] ?_; (with_reducible refine (spec_l2DrawRight.calls k g s0_0 s0_1 s0_2 t275 t278 t279 w0 _ ?side1 ?side2 A2.out).mono ?_); (case side1 => exact u43HI0); (case side2 => exact u43HB); rintro e w5 ⟨v276, rfl, ho0, hi, hb, hk⟩; refine ⟨_, rfl, ?_⟩; have HO277 := am (Kd.R_lower ho0 (keep_size (w := w) (g := g) (row := none) u43HK)); replace HK := am (KeepBut.trans u43HK hk (.inl rfl)); replace HB := am (hb); replace HI0 := am (hi); clear hb hk hi ho0) | (refine gl 7 Tryd.func34 #[.pointer (some ⟨g, 0, none⟩), .int .i64 15] ?_; (with_reducible refine (spec_l1Below.calls g s0_0 t278 t279 15 t280 t281 t282 w0 _ ?side1 ?side2 A3.out).mono ?_); (case side1 => exact u43HI0); (case side2 => exact u43HB); rintro e w6 ⟨rfl, hi, hb, hk⟩; refine ⟨_, rfl, ?_⟩; replace HO277 := am (Kd.R_mono (Kd.R_keep (IsS57.apart (show IsS57 w0 _ g s0_0 t278 t279 from u43HI0) (ro HO277) (by decide)) hk (fun _ h => h.2)) (fun _ h => h.1)); replace HK := am (KeepBut.trans u43HK hk (.inl rfl)); replace HB := am (hb); replace HI0 := am (hi); clear hb hk hi))
 have H := HH4.out
 clear HH4
 by_cases c7 : t280 = 0
 ·rw [if_pos c7] at H
  have c7b0 : (t280 == 0) = true := beq_iff_eq.mpr c7
  have c7b1 : (t280 != 0) = false := bne_eq_false_iff_eq.mpr c7
  clear c7
  (first | rw [c7b0] | (simp only [i64_w, i32_w]; rw [c7b0]) | skip)
  revert H
  refine ok4 fun t283 t284 t285 t286 A8 H => ?_
  (try dsimp only at H)
  revert H
  refine ok4 fun t287 t288 t289 t290 A9 H => ?_
  (try dsimp only at H)
  obtain ⟨y291, hy291⟩ : ∃ y_ : List (S46), y_ = (([(⟨t283, t284⟩ : S46), (⟨t287, t288⟩ : S46)] : List (S46))) := ⟨_, rfl⟩
  replace H : (if t275.length + y291.length < 4398046511104 then (some ((t275 ++ y291), t289, t290)) else (none)) = some (r1, r2, r3) := by first | (rw [hy291]; with_reducible exact H) | (have H2_ := (Option.bind_some _ _).symm.trans H; rw [hy291]; with_reducible exact H2_) | (have H2_ := (Option.bind_some _ _).symm.trans H; with_reducible exact H2_) | with_reducible exact H | (rw [hy291]; exact H) | exact H
  have Ny291 := am hy291
  clear hy291
  revert H
  refine ifn fun c10 H => ?_
  have LMc10 := am c10
  clear c10
  obtain ⟨y294, hy294⟩ : ∃ y_ : List (S46), y_ = (t275 ++ y291) := ⟨_, rfl⟩
  replace H : (some (y294, t289, t290)) = some (r1, r2, r3) := by first | (rw [hy294]; with_reducible exact H) | (have H2_ := (Option.bind_some _ _).symm.trans H; rw [hy294]; with_reducible exact H2_) | (have H2_ := (Option.bind_some _ _).symm.trans H; with_reducible exact H2_) | with_reducible exact H | (rw [hy294]; exact H) | exact H
  have Ny294 := am hy294
  clear hy294
  simp only [Option.some.injEq, Prod.mk.injEq] at H
  obtain ⟨rfl, rfl, rfl⟩ := H
  go_wp2_with (first | ((with_reducible refine gw ?_); first | (refine gl 12 Tryd.func56 #[.pointer (some ⟨g, 0, none⟩)] ?_; (with_reducible refine (spec_l2DrawField.calls g s0_0 t281 t282 t283 t284 t285 t286 w0 _ ?side1 ?side2 A8.out).mono ?_); (case side1 => exact u43HI0); (case side2 => exact u43HB); rintro e w11 ⟨rfl, hi, hb, hk⟩; refine ⟨_, rfl, ?_⟩; replace HO277 := am (Kd.R_mono (Kd.R_keep (IsS57.apart (show IsS57 w0 _ g s0_0 t281 t282 from u43HI0) (ro HO277) (by decide)) hk (fun _ h => h.2)) (fun _ h => h.1)); replace HK := am (KeepBut.trans u43HK hk (.inl rfl)); replace HB := am (hb); replace HI0 := am (hi); clear hb hk hi) | (refine gl 14 Tryd.func56 #[.pointer (some ⟨g, 0, none⟩)] ?_; (with_reducible refine (spec_l2DrawField.calls g s0_0 t285 t286 t287 t288 t289 t290 w0 _ ?side1 ?side2 A9.out).mono ?_); (case side1 => exact u43HI0); (case side2 => exact u43HB); rintro e w12 ⟨rfl, hi, hb, hk⟩; refine ⟨_, rfl, ?_⟩; replace HO277 := am (Kd.R_mono (Kd.R_keep (IsS57.apart (show IsS57 w0 _ g s0_0 t285 t286 from u43HI0) (ro HO277) (by decide)) hk (fun _ h => h.2)) (fun _ h => h.1)); replace HK := am (KeepBut.trans u43HK hk (.inl rfl)); replace HB := am (hb); replace HI0 := am (hi); clear hb hk hi)) | ((with_reducible refine gate_dst (N := 15) rfl ?_); refine Kd.R_lit k46 _ 46 ?hg (N := 15) ?hd (xs := ([(⟨t283, t284⟩ : S46), (⟨t287, t288⟩ : S46)] : List (S46))) (inner := [.string t283, .string t284, .string t287, .string t288]) (ok := fun _ => True) (okp := fun _ => True) ?hr ?hp (fun _ hk => hk) trivial (Below.refl _ _) (Nat.le_refl _) (by simp) ?_; (case hd => rfl); (case hg => rfl); (case hr => first | (go_simp; done) | (go_simp; rfl)); (case hp => exact (Reps.c2 (show Kd.M k46 _ _ _ (⟨t283, t284⟩ : S46) [.string t283, .string t284] from (k46_mkM _ _ _ (⟨t283, t284⟩ : S46) )) (Reps.c2 (show Kd.M k46 _ _ _ (⟨t287, t288⟩ : S46) [.string t287, .string t288] from (k46_mkM _ _ _ (⟨t287, t288⟩ : S46) )) (Reps.none _ _)))); intro v292 w13 ho14 hb hg_ hnew_; clear hg_ hnew_; (first | rw [← Ny291.out] at ho14 | (simp only [Int.reduceToNat] at ho14; rw [← Ny291.out] at ho14)); have HO293 := am (Kd.R_lower (Kd.R_new' ho14 (Kd.R_lt (ro HO277))) (keep_size (w := w) (g := g) (row := none) u43HK)); replace HO277 := am (Kd.R_elder' (ro HO277) (Kd.R_base ho14) hb); replace HK := am (KeepBut.trans u43HK (KeepBut.of_below hb g none) (.inl rfl)); replace HB := am (below_step u43HB hb); replace HI0 := am (IsS57.below u43HI0 hb); clear hb ho14; obtain ⟨Ao16, co16, eo16⟩ := Kd.R_slice HO293.out; subst eo16) | ((with_reducible refine gate_builtin (b := .append) (xs := #[.tmp 10, .tmp 15]) rfl ?_); at_builtin; refine Kd.R_append_rows k46 w.heap.size rfl (.tmp 10) (.tmp 15) 24 46 (.agg #[(.string ⟨#[]⟩), (.string ⟨#[]⟩)]) 32 rfl Tryd.underlying24 info46 rfl (by decide) (by omega) v276 t275 y291 _ _ _ (fun k_ => some k_ ≠ (.slice Ao16 y291.length co16 : Value).ownBlock) (fun _ => False) rfl rfl ?aO ?aR (fun _ _ h => h) (fun _ h => h.elim) ?aF (Below.refl _ _) ?aS ?aL ?_; (case aR => exact rc HO293); (case aF => exact (fun k_ hk => Kd.fresh' (Kd.R_lt (ro HO293)) k_ hk)); (case aO => exact (by (with_reducible repeat (first | apply Kd.R_alloc | apply Kd.R_drewN | apply Kd.R_drew)); exact Kd.R_mono HO277.out (fun _ hk => hk.2))); (case aS => exact (keep_size (w := w) (g := g) (row := none) u43HK)); (case aL => have := LMc10.out; omega); intro v295 w15 ho hb hg hat; rw [← Ny294.out] at ho; have n0_ := am (IsS57.grown u43HI0 hg (IsS57.own_ne HI0.out HO277.out (by decide))); have n1_ := am (Kd.R_after (ok := (fun _ => True)) (ro HO293) hg hat); have n2_ := am (below_weaken u43HB HL.out hb); have n3_ := am (KeepBut.trans u43HK (KeepBut.of_grown hg g) (Kd.R_base2 HO277.out)); have n4_ := am (ho); clear HI0; clear HO293; clear HB; clear HK; clear HO277; have HI0 := n0_; have HO293 := n1_; have HB := n2_; have HK := n3_; have HO296 := n4_; clear n0_ n1_ n2_ n3_ n4_; clear ho hb hg hat))
  go_ret
  exact ⟨_, rf, by (with_reducible repeat (first | apply Kd.R_alloc | apply Kd.R_drewN | apply Kd.R_drew)); exact Kd.R_mono HO296.out (fun _ hk => trivial), u43HI0, u43HB, u43HK⟩
 rw [if_neg c7] at H
 have c7b0 : (t280 == 0) = false := beq_eq_false_iff_ne.mpr c7
 have c7b1 : (t280 != 0) = true := bne_iff_ne.mpr c7
 (first | rw [c7b0] | (simp only [i64_w, i32_w]; rw [c7b0]) | skip)
 by_cases c17 : t280 = 1
 rotate_left
 ·rw [if_neg c17] at H
  have c17b0 : (t280 == 1) = false := beq_eq_false_iff_ne.mpr c17
  have c17b1 : (t280 != 1) = true := bne_iff_ne.mpr c17
  by_cases c30 : t280 = 2
  rotate_left
  ·rw [if_neg c30] at H
   have c30b0 : (t280 == 2) = false := beq_eq_false_iff_ne.mpr c30
   have c30b1 : (t280 != 2) = true := bne_iff_ne.mpr c30
   simp only [Option.some.injEq, Prod.mk.injEq] at H
   obtain ⟨rfl, rfl, rfl⟩ := H
   go_wp2
   go_ret
   exact ⟨_, rf, by (with_reducible repeat (first | apply Kd.R_alloc | apply Kd.R_drewN | apply Kd.R_drew)); exact HO277.out, u43HI0, u43HB, u43HK⟩
  rw [if_pos c30] at H
  have c30b0 : (t280 == 2) = true := beq_iff_eq.mpr c30
  have c30b1 : (t280 != 2) = false := bne_eq_false_iff_eq.mpr c30
  clear c30
  have H' := am H
  clear H
  go_wp2
  (try simp only [Act.put, List.setIfInBounds_toArray, List.set_cons_zero, List.set_cons_succ])
  go_loopg [3] k (fun kq v3 w' => ∃ (x3_1 : List (S46)) (x1001_1 : Int) (x1002_1 : Int), Aside0 (spec_l2Draw.l0 kq x3_1 s0_0 x1001_1 x1002_1 = some (r1, r2, r3)) ∧ Aside0 (kq ≤ k) ∧ Aside0 (Kd.R k46 46 w' w.heap.size (fun _ => True) v3 x3_1) ∧ Aside0 (IsS57 w0 w' g s0_0 x1001_1 x1002_1) ∧ Aside0 (KeepBut w w' g none) ∧ Aside0 (Below w0.heap.size w0 w'))
  case atStart => exact ⟨(t275), (t281), (t282), H', ⟨Nat.le_refl _⟩, ⟨by (with_reducible repeat (first | apply Kd.R_alloc | apply Kd.R_drewN | apply Kd.R_drew)); exact HO277.out⟩, ⟨u43HI0⟩, ⟨u43HK⟩, ⟨u43HB⟩⟩
  case round =>
   clear H'
   try clear c1
   try clear c2
   try clear p2
   try clear c3
   try clear c4
   try clear c5
   try clear c7
   try clear c7b0
   try clear c7b1
   try clear c10
   try clear c17
   try clear c17b0
   try clear c17b1
   try clear c20
   try clear c30
   try clear c30b0
   try clear c30b1
   obtain ⟨x3_1, x1001_1, x1002_1, HA, HK1, HO_3, HI0, HK, HB⟩ := hrel
   cases gk with
   | zero => exact absurd HA.out (by simp [spec_l2Draw.l0])
   | succ k1 =>
    have H := HA.out
    clear HA
    simp only [spec_l2Draw.l0] at H
    revert H
    refine ok3 fun t312 t313 t314 A31 H => ?_
    (try dsimp only at H)
    by_cases c32 : (x3_1.length : Int) < (wrap64 (8 + t312))
    rotate_left
    ·rw [if_neg c32] at H
     have c32b0 := decide_eq_false c32
     clear c32
     simp only [Option.some.injEq, Prod.mk.injEq] at H
     obtain ⟨rfl, rfl, rfl⟩ := H
     obtain ⟨Ao40, co40, eo40⟩ := Kd.R_slice HO_3.out
     subst eo40
     go_wp2_with ((with_reducible refine gw ?_); first | (refine gl 34 Tryd.func34 #[.pointer (some ⟨g, 0, none⟩), .int .i64 2] ?_; (with_reducible refine (spec_l1Below.calls g s0_0 x1001_1 x1002_1 2 t312 t313 t314 w0 _ ?side1 ?side2 A31.out).mono ?_); (case side1 => exact u43HI0); (case side2 => exact u43HB); rintro e w41 ⟨rfl, hi, hb, hk⟩; refine ⟨_, rfl, ?_⟩; replace HO_3 := am (Kd.R_mono (Kd.R_keep (IsS57.apart (show IsS57 w0 _ g s0_0 x1001_1 x1002_1 from u43HI0) (ro HO_3) (by decide)) hk (fun _ h => h.2)) (fun _ h => h.1)); replace HK := am (KeepBut.trans u43HK hk (.inl rfl)); replace HB := am (hb); replace HI0 := am (hi); clear hb hk hi))
     go_ret
     exact ⟨_, rf, by (with_reducible repeat (first | apply Kd.R_alloc | apply Kd.R_drewN | apply Kd.R_drew)); exact HO_3.out, u43HI0, u43HB, u43HK⟩
    rw [if_pos c32] at H
    have c32b0 := decide_eq_true c32
    clear c32
    revert H
    refine ok1 fun t315 A33 H => ?_
    revert H
    refine ifn fun c34 H => ?_
    have c34b0 := eq_true c34
    have c34b1 := decide_eq_true c34
    try have c34b2 := eq_false (Nat.not_lt.2 c34)
    revert H
    refine ifn fun c35 H => ?_
    have LMc35 := am c35
    clear c35
    obtain ⟨y316, hy316⟩ : ∃ y_ : List (S46), y_ = (x3_1 ++ [(⟨(⟨#[110]⟩ : ByteArray) ++ t315, (⟨#[118]⟩ : ByteArray)⟩ : S46)]) := ⟨_, rfl⟩
    replace H : (spec_l2Draw.l0 k1 y316 s0_0 t313 t314) = some (r1, r2, r3) := by first | (rw [hy316]; with_reducible exact H) | (have H2_ := (Option.bind_some _ _).symm.trans H; rw [hy316]; with_reducible exact H2_) | (have H2_ := (Option.bind_some _ _).symm.trans H; with_reducible exact H2_) | with_reducible exact H | (rw [hy316]; exact H) | exact H
    have Ny316 := am hy316
    clear hy316
    have H' := am H
    clear H
    obtain ⟨Ao36, co36, eo36⟩ := Kd.R_slice HO_3.out
    subst eo36
    go_wp2_with (first | ((with_reducible refine gw ?_); first | (refine gl 34 Tryd.func34 #[.pointer (some ⟨g, 0, none⟩), .int .i64 2] ?_; (with_reducible refine (spec_l1Below.calls g s0_0 x1001_1 x1002_1 2 t312 t313 t314 w0 _ ?side1 ?side2 A31.out).mono ?_); (case side1 => exact u43HI0); (case side2 => exact u43HB); rintro e w37 ⟨rfl, hi, hb, hk⟩; refine ⟨_, rfl, ?_⟩; replace HO_3 := am (Kd.R_mono (Kd.R_keep (IsS57.apart (show IsS57 w0 _ g s0_0 x1001_1 x1002_1 from u43HI0) (ro HO_3) (by decide)) hk (fun _ h => h.2)) (fun _ h => h.1)); replace HK := am (KeepBut.trans u43HK hk (.inl rfl)); replace HB := am (hb); replace HI0 := am (hi); clear hb hk hi) | (refine gl 40 Tryd.func20 #[.int .i64 (x3_1.length : Int)] ?_; (with_reducible refine (spec_NumText.calls k1 (x3_1.length : Int) t315 _ A33.out).mono ?_); rintro e w38 ⟨rfl, hb⟩; refine ⟨_, rfl, ?_⟩; replace HO_3 := kr HO_3 hb; replace HK := am (KeepBut.trans u43HK (KeepBut.of_below hb g none) (.inl rfl)); replace HB := am (below_step u43HB hb); replace HI0 := am (IsS57.below u43HI0 hb); clear hb)) | ((with_reducible refine gate_builtin (b := .append) (xs := #[.tmp 37, .tmp 43]) rfl ?_); at_builtin; refine Kd.R_append k46 w.heap.size rfl (.tmp 37) (.tmp 43) 24 46 (.agg #[(.string ⟨#[]⟩), (.string ⟨#[]⟩)]) 32 rfl Tryd.underlying24 info46 rfl (by decide) (by omega) (.slice Ao36 x3_1.length co36) x3_1 (⟨(⟨#[110]⟩ : ByteArray) ++ t315, (⟨#[118]⟩ : ByteArray)⟩ : S46) [.string ((⟨#[110]⟩ : ByteArray) ++ t315), .string (⟨#[118]⟩ : ByteArray)] (fun _ => True) (fun _ => False) rfl rfl ?aP (fun _ hk => hk.elim) ?aF ?aO (Below.refl _ _) ?aS ?aL ?_; (case aP => exact k46_mkM _ _ _ (⟨(⟨#[110]⟩ : ByteArray) ++ t315, (⟨#[118]⟩ : ByteArray)⟩ : S46)); (case aF => exact (fun _ _ => trivial)); (case aO => exact (ro HO_3)); (case aS => exact (keep_size (w := w) (g := g) (row := none) u43HK)); (case aL => have := LMc35.out; omega); intro v317 w39 ho hb hg hat; rw [← Ny316.out] at ho; have n0_ := am (IsS57.grown u43HI0 hg (IsS57.own_ne HI0.out HO_3.out (by decide))); have n1_ := am (below_weaken u43HB HL.out hb); have n2_ := am (KeepBut.trans u43HK (KeepBut.of_grown hg g) (Kd.R_base2 HO_3.out)); have n3_ := am (ho); clear HI0; clear HB; clear HK; clear HO_3; have HI0 := n0_; have HB := n1_; have HK := n2_; have HO318 := n3_; clear n0_ n1_ n2_ n3_; clear ho hb hg hat))
    go_roundg k1
    case measure => have := HK1.out; omega
    case rel => exact ⟨(y316), (t313), (t314), H', ⟨by have := HK1.out; omega⟩, ⟨by (with_reducible repeat (first | apply Kd.R_alloc | apply Kd.R_drewN | apply Kd.R_drew)); exact HO318.out⟩, ⟨u43HI0⟩, ⟨u43HK⟩, ⟨u43HB⟩⟩
 rw [if_pos c17] at H
 have c17b0 : (t280 == 1) = true := beq_iff_eq.mpr c17
 have c17b1 : (t280 != 1) = false := bne_eq_false_iff_eq.mpr c17
 clear c17
 obtain ⟨y297, hy297⟩ : ∃ y_ : List ByteArray, y_ = (([(⟨#[]⟩ : ByteArray), (⟨#[65]⟩ : ByteArray), (⟨#[99, 111, 110, 116, 101, 110, 116, 45, 108, 101, 110, 103, 116, 104]⟩ : ByteArray)] : List ByteArray)) := ⟨_, rfl⟩
 replace H : ((spec_l1Pick.f s0_0 t281 t282 y297).bind fun bt300 => ((spec_l1Pick.f s0_0 bt300.2.1 bt300.2.2 (([(⟨#[]⟩ : ByteArray), (⟨#[32, 97]⟩ : ByteArray), (⟨#[49]⟩ : ByteArray)] : List ByteArray))).bind fun bt306 => (if t275.length < 4398046511104 then (some ((t275 ++ [(⟨bt300.1, bt306.1⟩ : S46)]), bt306.2.1, bt306.2.2)) else (none)))) = some (r1, r2, r3) := by first | (rw [hy297]; with_reducible exact H) | (have H2_ := (Option.bind_some _ _).symm.trans H; rw [hy297]; with_reducible exact H2_) | (have H2_ := (Option.bind_some _ _).symm.trans H; with_reducible exact H2_) | with_reducible exact H | (rw [hy297]; exact H) | exact H
 have Ny297 := am hy297
 clear hy297
 revert H
 refine ok3 fun t300 t301 t302 A18 H => ?_
 (try dsimp only at H)
 obtain ⟨y303, hy303⟩ : ∃ y_ : List ByteArray, y_ = (([(⟨#[]⟩ : ByteArray), (⟨#[32, 97]⟩ : ByteArray), (⟨#[49]⟩ : ByteArray)] : List ByteArray)) := ⟨_, rfl⟩
 replace H : ((spec_l1Pick.f s0_0 t301 t302 y303).bind fun bt306 => (if t275.length < 4398046511104 then (some ((t275 ++ [(⟨t300, bt306.1⟩ : S46)]), bt306.2.1, bt306.2.2)) else (none))) = some (r1, r2, r3) := by first | (rw [hy303]; with_reducible exact H) | (have H2_ := (Option.bind_some _ _).symm.trans H; rw [hy303]; with_reducible exact H2_) | (have H2_ := (Option.bind_some _ _).symm.trans H; with_reducible exact H2_) | with_reducible exact H | (rw [hy303]; exact H) | exact H
 have Ny303 := am hy303
 clear hy303
 revert H
 refine ok3 fun t306 t307 t308 A19 H => ?_
 (try dsimp only at H)
 revert H
 refine ifn fun c20 H => ?_
 have LMc20 := am c20
 clear c20
 obtain ⟨y309, hy309⟩ : ∃ y_ : List (S46), y_ = (t275 ++ [(⟨t300, t306⟩ : S46)]) := ⟨_, rfl⟩
 replace H : (some (y309, t307, t308)) = some (r1, r2, r3) := by first | (rw [hy309]; with_reducible exact H) | (have H2_ := (Option.bind_some _ _).symm.trans H; rw [hy309]; with_reducible exact H2_) | (have H2_ := (Option.bind_some _ _).symm.trans H; with_reducible exact H2_) | with_reducible exact H | (rw [hy309]; exact H) | exact H
 have Ny309 := am hy309
 clear hy309
 simp only [Option.some.injEq, Prod.mk.injEq] at H
 obtain ⟨rfl, rfl, rfl⟩ := H
 go_wp2_with (first | ((with_reducible refine gate_dst (N := 21) rfl ?_); refine Kd.R_lit Kd.string _ 9 ?hg (N := 21) ?hd (xs := ([(⟨#[]⟩ : ByteArray), (⟨#[65]⟩ : ByteArray), (⟨#[99, 111, 110, 116, 101, 110, 116, 45, 108, 101, 110, 103, 116, 104]⟩ : ByteArray)] : List ByteArray)) (inner := [.string (⟨#[]⟩ : ByteArray), .string (⟨#[65]⟩ : ByteArray), .string (⟨#[99, 111, 110, 116, 101, 110, 116, 45, 108, 101, 110, 103, 116, 104]⟩ : ByteArray)]) (ok := fun _ => True) (okp := fun _ => True) ?hr ?hp (fun _ hk => hk) trivial (Below.refl _ _) (Nat.le_refl _) (by simp) ?_; (case hd => rfl); (case hg => rfl); (case hr => first | (go_simp; done) | (go_simp; rfl)); (case hp => exact rp); intro v298 w21 ho22 hb hg_ hnew_; clear hg_ hnew_; (first | rw [← Ny297.out] at ho22 | (simp only [Int.reduceToNat] at ho22; rw [← Ny297.out] at ho22)); replace HO277 := kr HO277 hb; have HO299 := am (Kd.R_lower ho22 (keep_size (w := w) (g := g) (row := none) u43HK)); replace HK := am (KeepBut.trans u43HK (KeepBut.of_below hb g none) (.inl rfl)); replace HB := am (below_step u43HB hb); replace HI0 := am (IsS57.below u43HI0 hb); clear hb ho22; obtain ⟨Ao23, co23, eo23⟩ := Kd.R_slice HO299.out; subst eo23) | ((with_reducible refine gw ?_); refine gl 22 Tryd.func50 #[.pointer (some ⟨g, 0, none⟩), .slice Ao23 y297.length co23] ?_; (with_reducible refine (spec_l1Pick.calls g s0_0 t281 t282 _ _ y297 t300 t301 t302 w0 _ ?side1 ?side2 ?side3 ?side4 ?side5 A18.out).mono ?_); (case side1 => exact u43HI0); (case side2 => exact u43HB); (case side3 => exact rc HO299); (case side4 => exact (Kd.R_reads' HO299.out).2.1); (case side5 => exact far_slice (IsS57.own_ne HI0.out HO299.out (by decide))); rintro e w24 ⟨rfl, hi, hb, hk⟩; refine ⟨_, rfl, ?_⟩; replace HO277 := am (Kd.R_mono (Kd.R_keep (IsS57.apart (show IsS57 w0 _ g s0_0 t281 t282 from u43HI0) (ro HO277) (by decide)) hk (fun _ h => h.2)) (fun _ h => h.1)); replace HO299 := am (Kd.R_mono (Kd.R_keep (IsS57.apart (show IsS57 w0 _ g s0_0 t281 t282 from u43HI0) (ro HO299) (by decide)) hk (fun _ h => h.2)) (fun _ h => h.1)); replace HK := am (KeepBut.trans u43HK hk (.inl rfl)); replace HB := am (hb); replace HI0 := am (hi); clear hb hk hi) | ((with_reducible refine gate_dst (N := 24) rfl ?_); refine Kd.R_lit Kd.string _ 9 ?hg (N := 24) ?hd (xs := ([(⟨#[]⟩ : ByteArray), (⟨#[32, 97]⟩ : ByteArray), (⟨#[49]⟩ : ByteArray)] : List ByteArray)) (inner := [.string (⟨#[]⟩ : ByteArray), .string (⟨#[32, 97]⟩ : ByteArray), .string (⟨#[49]⟩ : ByteArray)]) (ok := fun _ => True) (okp := fun _ => True) ?hr ?hp (fun _ hk => hk) trivial (Below.refl _ _) (Nat.le_refl _) (by simp) ?_; (case hd => rfl); (case hg => rfl); (case hr => first | (go_simp; done) | (go_simp; rfl)); (case hp => exact rp); intro v304 w25 ho26 hb hg_ hnew_; clear hg_ hnew_; (first | rw [← Ny303.out] at ho26 | (simp only [Int.reduceToNat] at ho26; rw [← Ny303.out] at ho26)); replace HO277 := kr HO277 hb; have HO305 := am (Kd.R_lower (Kd.R_new' ho26 (Kd.R_lt (ro HO299))) (keep_size (w := w) (g := g) (row := none) u43HK)); replace HO299 := am (Kd.R_elder' (ro HO299) (Kd.R_base ho26) hb); replace HK := am (KeepBut.trans u43HK (KeepBut.of_below hb g none) (.inl rfl)); replace HB := am (below_step u43HB hb); replace HI0 := am (IsS57.below u43HI0 hb); clear hb ho26; obtain ⟨Ao27, co27, eo27⟩ := Kd.R_slice HO305.out; subst eo27) | ((with_reducible refine gw ?_); refine gl 25 Tryd.func50 #[.pointer (some ⟨g, 0, none⟩), .slice Ao27 y303.length co27] ?_; (with_reducible refine (spec_l1Pick.calls g s0_0 t301 t302 _ _ y303 t306 t307 t308 w0 _ ?side1 ?side2 ?side3 ?side4 ?side5 A19.out).mono ?_); (case side1 => exact u43HI0); (case side2 => exact u43HB); (case side3 => exact rc HO305); (case side4 => exact (Kd.R_reads' HO305.out).2.1); (case side5 => exact far_slice (IsS57.own_ne HI0.out HO305.out (by decide))); rintro e w28 ⟨rfl, hi, hb, hk⟩; refine ⟨_, rfl, ?_⟩; replace HO277 := am (Kd.R_mono (Kd.R_keep (IsS57.apart (show IsS57 w0 _ g s0_0 t301 t302 from u43HI0) (ro HO277) (by decide)) hk (fun _ h => h.2)) (fun _ h => h.1)); replace HO299 := am (Kd.R_mono (Kd.R_keep (IsS57.apart (show IsS57 w0 _ g s0_0 t301 t302 from u43HI0) (ro HO299) (by decide)) hk (fun _ h => h.2)) (fun _ h => h.1)); replace HO305 := am (Kd.R_mono (Kd.R_keep (IsS57.apart (show IsS57 w0 _ g s0_0 t301 t302 from u43HI0) (ro HO305) (by decide)) hk (fun _ h => h.2)) (fun _ h => h.1)); replace HK := am (KeepBut.trans u43HK hk (.inl rfl)); replace HB := am (hb); replace HI0 := am (hi); clear hb hk hi) | ((with_reducible refine gate_builtin (b := .append) (xs := #[.tmp 19, .tmp 27]) rfl ?_); at_builtin; refine Kd.R_append k46 w.heap.size rfl (.tmp 19) (.tmp 27) 24 46 (.agg #[(.string ⟨#[]⟩), (.string ⟨#[]⟩)]) 32 rfl Tryd.underlying24 info46 rfl (by decide) (by omega) v276 t275 (⟨t300, t306⟩ : S46) [.string t300, .string t306] (fun _ => True) (fun _ => False) rfl rfl ?aP (fun _ hk => hk.elim) ?aF ?aO (Below.refl _ _) ?aS ?aL ?_; (case aP => exact k46_mkM _ _ _ (⟨t300, t306⟩ : S46)); (case aF => exact (fun _ _ => trivial)); (case aO => exact (ro HO277)); (case aS => exact (keep_size (w := w) (g := g) (row := none) u43HK)); (case aL => have := LMc20.out; omega); intro v310 w29 ho hb hg hat; rw [← Ny309.out] at ho; have n0_ := am (IsS57.grown u43HI0 hg (IsS57.own_ne HI0.out HO277.out (by decide))); have n1_ := am (Kd.R_over' (ro HO299) (Kd.R_typed (ro HO277)) (by decide) hg); have n2_ := am (Kd.R_over' (ro HO305) (Kd.R_typed (ro HO277)) (by decide) hg); have n3_ := am (below_weaken u43HB HL.out hb); have n4_ := am (KeepBut.trans u43HK (KeepBut.of_grown hg g) (Kd.R_base2 HO277.out)); have n5_ := am (ho); clear HI0; clear HO299; clear HO305; clear HB; clear HK; clear HO277; have HI0 := n0_; have HO299 := n1_; have HO305 := n2_; have HB := n3_; have HK := n4_; have HO311 := n5_; clear n0_ n1_ n2_ n3_ n4_ n5_; clear ho hb hg hat))
 go_ret
 exact ⟨_, rf, by (with_reducible repeat (first | apply Kd.R_alloc | apply Kd.R_drewN | apply Kd.R_drew)); exact HO311.out, u43HI0, u43HB, u43HK⟩

end Go.Proofs.YtjlpjbkpmmpojaaDoor.All
