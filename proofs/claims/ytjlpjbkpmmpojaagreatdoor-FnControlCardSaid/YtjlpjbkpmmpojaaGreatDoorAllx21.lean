-- Written by a program of this session (wip/tools/hprint.py) out of the translation. Lean checks it.
import Derived.Test.YtjlpjbkpmmpojaaGreatDoorAllx0
import Derived.Test.YtjlpjbkpmmpojaaGreatDoorAllx1
import Derived.Test.YtjlpjbkpmmpojaaGreatDoorAllx2
import Derived.Test.YtjlpjbkpmmpojaaGreatDoorAllx6
import Derived.Test.YtjlpjbkpmmpojaaGreatDoorAllx19
namespace Go.Proofs.YtjlpjbkpmmpojaaGreatDoor.All
open Go.RowKit Go.Proofs.YtjlpjbkpmmpojaaGreatDoorW.PrintWords Go.Proofs.YtjlpjbkpmmpojaaGreatDoorW.PrintLast Go.Proofs.YtjlpjbkpmmpojaaGreatDoorW.PrintMore
attribute [local go_sem] max2_int min2_int max_two min_two max_three min_three max_four min_four   -- for this text's walks alone
set_option linter.unusedVariables false
set_option linter.unusedSimpArgs false

/-! #### words -/
theorem eqA42 (d : Nat) (w : World) (x0 y0 : Bool) (x1 y1 : Bool) (x2 y2 : Bool) (x3 y3 : Bool) (x4 y4 : Bool) (x5 y5 : Int) :
  (Op.equalIn (d + 2) 42 (.agg #[.bool x0, .bool x1, .bool x2, .bool x3, .bool x4, .int .i64 x5]) (.agg #[.bool y0, .bool y1, .bool y2, .bool y3, .bool y4, .int .i64 y5])).run Tryz.prog w = .ok (x0 == y0 && (x1 == y1 && (x2 == y2 && (x3 == y3 && (x4 == y4 && (x5 == y5)))))) w := by
 refine eqA_of Tryz.underlying42 (by kernel_rfl) ?_
 refine eqf_cons (by rfl) (by go_simp; rfl) (by go_simp; rfl) (by go_simp) ?_
 refine eqf_cons (by rfl) (by go_simp; rfl) (by go_simp; rfl) (by go_simp) ?_
 refine eqf_cons (by rfl) (by go_simp; rfl) (by go_simp; rfl) (by go_simp) ?_
 refine eqf_cons (by rfl) (by go_simp; rfl) (by go_simp; rfl) (by go_simp) ?_
 refine eqf_cons (by rfl) (by go_simp; rfl) (by go_simp; rfl) (by go_simp) ?_
 exact eqf_last (by rfl) (by go_simp; rfl) (by go_simp; rfl) (by go_simp)

/-! ### spec_DrawCcRead: function 23 -/
theorem u23HB {p : Prop} (h : p := by repeat (first | (with_reducible first | exact HB.out | apply below_alloc | apply pw_below_drewN | apply below_drew1 | refine below_set ?_ (IsS139.ge HI925.out)) | exact HB.out)) : p := h
theorem u23HI925 {p : Prop} (h : p := by repeat (first | (with_reducible first | exact HI925.out | apply IsS139.alloc | apply IsS139.drewN | apply IsS139.drew | apply IsS139.set_1 | apply IsS139.set_2) | exact HI925.out)) : p := h
def spec_DrawCcRead.l0 : Nat → ByteArray → Int → List Int → Int → Int → Option (ByteArray)
 | 0, _, _, _, _, _ => none
 | k + 1, x4, x5, x926000, x926001, x926002 => (spec_l1Below.f x926000 x926001 x926002 5).bind fun bt926 => (if x5 < bt926.1 then ((spec_l1Pick.f x926000 bt926.2.1 bt926.2.2 (([(⟨#[110, 111, 45, 115, 116, 111, 114, 101]⟩ : ByteArray), (⟨#[78, 111, 45, 67, 97, 99, 104, 101]⟩ : ByteArray), (⟨#[112, 114, 105, 118, 97, 116, 101]⟩ : ByteArray), (⟨#[109, 117, 115, 116, 45, 114, 101, 118, 97, 108, 105, 100, 97, 116, 101]⟩ : ByteArray), (⟨#[109, 97, 120, 45, 97, 103, 101, 61, 53]⟩ : ByteArray), (⟨#[109, 97, 120, 45, 97, 103, 101, 61]⟩ : ByteArray), (⟨#[77, 65, 88, 45, 65, 71, 69, 61, 55, 48]⟩ : ByteArray), (⟨#[109, 97, 120, 45, 97, 103, 101, 61, 48, 53]⟩ : ByteArray), (⟨#[120]⟩ : ByteArray), (⟨#[32]⟩ : ByteArray)] : List ByteArray))).bind fun bt932 => (if x4.size + bt932.1.size ≤ 9223372036854775807 then ((spec_l1Pick.f x926000 bt932.2.1 bt932.2.2 (([(⟨#[44]⟩ : ByteArray), (⟨#[44, 32]⟩ : ByteArray), (⟨#[32, 44]⟩ : ByteArray), (⟨#[32]⟩ : ByteArray)] : List ByteArray))).bind fun bt938 => (if (x4 ++ bt932.1).size + bt938.1.size ≤ 9223372036854775807 then (spec_DrawCcRead.l0 k ((x4 ++ bt932.1) ++ bt938.1) (wrap64 (x5 + 1)) x926000 bt938.2.1 bt938.2.2) else (none))) else (none))) else (some x4))
def spec_DrawCcRead.f (k : Nat) (l0 : List Int) : Option (ByteArray) := (spec_l1New.f k l0).bind fun bt922 => (spec_DrawCcRead.l0 k (⟨#[]⟩ : ByteArray) 0 bt922.1 bt922.2.1 bt922.2.2)
theorem spec_DrawCcRead.mono_l : ∀ k, (∀ y0 y1 y2 y3 y4, LeO (spec_DrawCcRead.l0 k y0 y1 y2 y3 y4) (spec_DrawCcRead.l0 (k + 1) y0 y1 y2 y3 y4))
 | 0 => fun _ _ _ _ _ r h => by simp [spec_DrawCcRead.l0] at h
 | k + 1 => by
  have ih0 := spec_DrawCcRead.mono_l k
  ·intro y0 y1 y2 y3 y4
   unfold spec_DrawCcRead.l0
   have m0 := @spec_l1New.mono
   exact mo
theorem spec_DrawCcRead.mono : ∀ a0 k, LeO (spec_DrawCcRead.f k a0) (spec_DrawCcRead.f (k + 1) a0) := by
 intro a0 k
 have ih0 := spec_DrawCcRead.mono_l k
 unfold spec_DrawCcRead.f
 have m0 := @spec_l1New.mono
 exact mo
set_option maxHeartbeats 8000000 in
set_option maxRecDepth 100000 in
theorem spec_DrawCcRead.calls (k : Nat) (A0 : Option Addr) (c0 : Nat) (l0 : List Int) (r : ByteArray) (w : World) (hr0 : Kd.C (Kd.int .u8) w A0 l0.length l0) (hc0 : l0.length ≤ c0) (h : spec_DrawCcRead.f k l0 = some r) :
  Calls Tryz.prog 23 #[.slice A0 l0.length c0] w fun e w' => e = .returned (.string r) ∧ Below w.heap.size w w' := by
 have HR0 := am hr0
 have HC0 := am hc0
 clear hr0 hc0
 have HB := am (Below.refl w.heap.size w)
 unfold spec_DrawCcRead.f at h
 have H := h
 clear h
 revert H
 refine ok3 fun t922 t923 t924 A2 H => ?_
 (try dsimp only at H)
 have H' := am H
 clear H
 go_enter Tryz.func23, Tryz.ntmps23
 go_wp2_with ((with_reducible refine gw ?_); first | (refine gl 7 Tryz.func59 #[.slice A0 l0.length c0] ?_; (with_reducible refine (spec_l1New.calls k _ _ l0 t922 t923 t924 w _ ?side1 ?side2 ?side3 A2.out).mono ?_); (case side1 => exact u23HB); (case side2 => exact HR0.out); (case side3 => exact HC0.out); rintro e w3 ⟨g925, rfl, hi, hb, hb2⟩; refine ⟨_, rfl, ?_⟩; replace HB := am (hb); have HI925 := am (hi); clear hb hb2 hi))
 (try simp only [Act.put, List.setIfInBounds_toArray, List.set_cons_zero, List.set_cons_succ])
 go_loopg [4, 5] k (fun kq v4 v5 w' => ∃ (x4_1 : ByteArray) (x5_1 : Int) (x926001_1 : Int) (x926002_1 : Int), v4 = .string x4_1 ∧ v5 = .int .i64 x5_1 ∧ Aside0 (spec_DrawCcRead.l0 kq x4_1 x5_1 t922 x926001_1 x926002_1 = some r) ∧ Aside0 (kq ≤ k) ∧ Aside0 (IsS139 w w' g925 t922 x926001_1 x926002_1) ∧ Aside0 (Below w.heap.size w w'))
 case atStart => exact ⟨((⟨#[]⟩ : ByteArray)), (0), (t923), (t924), rs, rs, H', ⟨Nat.le_refl _⟩, ⟨u23HI925⟩, ⟨u23HB⟩⟩
 case round =>
  clear H'
  try clear c2
  try clear p2
  obtain ⟨x4_1, x5_1, x926001_1, x926002_1, rfl, rfl, HA, HK1, HI925, HB⟩ := hrel
  cases gk with
  | zero => exact absurd HA.out (by simp [spec_DrawCcRead.l0])
  | succ k1 =>
   have H := HA.out
   clear HA
   simp only [spec_DrawCcRead.l0] at H
   revert H
   refine ok3 fun t926 t927 t928 A4 H => ?_
   (try dsimp only at H)
   by_cases c5 : x5_1 < t926
   rotate_left
   ·rw [if_neg c5] at H
    have c5b0 := decide_eq_false c5
    clear c5
    obtain rfl := Option.some.inj H
    go_wp2_with ((with_reducible refine gw ?_); first | (refine gl 10 Tryz.func74 #[.pointer (some ⟨g925, 0, none⟩), .int .i64 5] ?_; (with_reducible refine (spec_l1Below.calls g925 t922 x926001_1 x926002_1 5 t926 t927 t928 w _ ?side1 ?side2 A4.out).mono ?_); (case side1 => exact u23HI925); (case side2 => exact u23HB); rintro e w19 ⟨rfl, hi, hb, hk⟩; refine ⟨_, rfl, ?_⟩; replace HB := am (hb); replace HI925 := am (hi); clear hb hk hi))
    go_ret
    exact ⟨rf, u23HB⟩
   rw [if_pos c5] at H
   have c5b0 := decide_eq_true c5
   clear c5
   obtain ⟨y929, hy929⟩ : ∃ y_ : List ByteArray, y_ = (([(⟨#[110, 111, 45, 115, 116, 111, 114, 101]⟩ : ByteArray), (⟨#[78, 111, 45, 67, 97, 99, 104, 101]⟩ : ByteArray), (⟨#[112, 114, 105, 118, 97, 116, 101]⟩ : ByteArray), (⟨#[109, 117, 115, 116, 45, 114, 101, 118, 97, 108, 105, 100, 97, 116, 101]⟩ : ByteArray), (⟨#[109, 97, 120, 45, 97, 103, 101, 61, 53]⟩ : ByteArray), (⟨#[109, 97, 120, 45, 97, 103, 101, 61]⟩ : ByteArray), (⟨#[77, 65, 88, 45, 65, 71, 69, 61, 55, 48]⟩ : ByteArray), (⟨#[109, 97, 120, 45, 97, 103, 101, 61, 48, 53]⟩ : ByteArray), (⟨#[120]⟩ : ByteArray), (⟨#[32]⟩ : ByteArray)] : List ByteArray)) := ⟨_, rfl⟩
   replace H : ((spec_l1Pick.f t922 t927 t928 y929).bind fun bt932 => (if x4_1.size + bt932.1.size ≤ 9223372036854775807 then ((spec_l1Pick.f t922 bt932.2.1 bt932.2.2 (([(⟨#[44]⟩ : ByteArray), (⟨#[44, 32]⟩ : ByteArray), (⟨#[32, 44]⟩ : ByteArray), (⟨#[32]⟩ : ByteArray)] : List ByteArray))).bind fun bt938 => (if (x4_1 ++ bt932.1).size + bt938.1.size ≤ 9223372036854775807 then (spec_DrawCcRead.l0 k1 ((x4_1 ++ bt932.1) ++ bt938.1) (wrap64 (x5_1 + 1)) t922 bt938.2.1 bt938.2.2) else (none))) else (none))) = some r := by first | (rw [hy929]; with_reducible exact H) | (have H2_ := (Option.bind_some _ _).symm.trans H; rw [hy929]; with_reducible exact H2_) | (have H2_ := (Option.bind_some _ _).symm.trans H; with_reducible exact H2_) | with_reducible exact H | (rw [hy929]; exact H) | exact H
   have Ny929 := am hy929
   clear hy929
   revert H
   refine ok3 fun t932 t933 t934 A6 H => ?_
   (try dsimp only at H)
   revert H
   refine ifn fun c7 H => ?_
   have c7b0 := eq_true c7
   have c7b1 := decide_eq_true c7
   try have c7b2 := eq_false (Nat.not_lt.2 c7)
   obtain ⟨y935, hy935⟩ : ∃ y_ : List ByteArray, y_ = (([(⟨#[44]⟩ : ByteArray), (⟨#[44, 32]⟩ : ByteArray), (⟨#[32, 44]⟩ : ByteArray), (⟨#[32]⟩ : ByteArray)] : List ByteArray)) := ⟨_, rfl⟩
   replace H : ((spec_l1Pick.f t922 t933 t934 y935).bind fun bt938 => (if (x4_1 ++ t932).size + bt938.1.size ≤ 9223372036854775807 then (spec_DrawCcRead.l0 k1 ((x4_1 ++ t932) ++ bt938.1) (wrap64 (x5_1 + 1)) t922 bt938.2.1 bt938.2.2) else (none))) = some r := by first | (rw [hy935]; with_reducible exact H) | (have H2_ := (Option.bind_some _ _).symm.trans H; rw [hy935]; with_reducible exact H2_) | (have H2_ := (Option.bind_some _ _).symm.trans H; with_reducible exact H2_) | with_reducible exact H | (rw [hy935]; exact H) | exact H
   have Ny935 := am hy935
   clear hy935
   revert H
   refine ok3 fun t938 t939 t940 A8 H => ?_
   (try dsimp only at H)
   revert H
   refine ifn fun c9 H => ?_
   have c9b0 := eq_true c9
   have c9b1 := decide_eq_true c9
   try have c9b2 := eq_false (Nat.not_lt.2 c9)
   have c9b3 : (9223372036854775807 < (x4_1).size + (t932).size + (t938).size) = False := b3 c9
   have H' := am H
   clear H
   go_wp2_with (first | ((with_reducible refine gw ?_); refine gl 10 Tryz.func74 #[.pointer (some ⟨g925, 0, none⟩), .int .i64 5] ?_; (with_reducible refine (spec_l1Below.calls g925 t922 x926001_1 x926002_1 5 t926 t927 t928 w _ ?side1 ?side2 A4.out).mono ?_); (case side1 => exact u23HI925); (case side2 => exact u23HB); rintro e w10 ⟨rfl, hi, hb, hk⟩; refine ⟨_, rfl, ?_⟩; replace HB := am (hb); replace HI925 := am (hi); clear hb hk hi) | ((with_reducible refine gate_dst (N := 16) rfl ?_); refine Kd.R_lit Kd.string _ 9 ?hg (N := 16) ?hd (xs := ([(⟨#[110, 111, 45, 115, 116, 111, 114, 101]⟩ : ByteArray), (⟨#[78, 111, 45, 67, 97, 99, 104, 101]⟩ : ByteArray), (⟨#[112, 114, 105, 118, 97, 116, 101]⟩ : ByteArray), (⟨#[109, 117, 115, 116, 45, 114, 101, 118, 97, 108, 105, 100, 97, 116, 101]⟩ : ByteArray), (⟨#[109, 97, 120, 45, 97, 103, 101, 61, 53]⟩ : ByteArray), (⟨#[109, 97, 120, 45, 97, 103, 101, 61]⟩ : ByteArray), (⟨#[77, 65, 88, 45, 65, 71, 69, 61, 55, 48]⟩ : ByteArray), (⟨#[109, 97, 120, 45, 97, 103, 101, 61, 48, 53]⟩ : ByteArray), (⟨#[120]⟩ : ByteArray), (⟨#[32]⟩ : ByteArray)] : List ByteArray)) (inner := [.string (⟨#[110, 111, 45, 115, 116, 111, 114, 101]⟩ : ByteArray), .string (⟨#[78, 111, 45, 67, 97, 99, 104, 101]⟩ : ByteArray), .string (⟨#[112, 114, 105, 118, 97, 116, 101]⟩ : ByteArray), .string (⟨#[109, 117, 115, 116, 45, 114, 101, 118, 97, 108, 105, 100, 97, 116, 101]⟩ : ByteArray), .string (⟨#[109, 97, 120, 45, 97, 103, 101, 61, 53]⟩ : ByteArray), .string (⟨#[109, 97, 120, 45, 97, 103, 101, 61]⟩ : ByteArray), .string (⟨#[77, 65, 88, 45, 65, 71, 69, 61, 55, 48]⟩ : ByteArray), .string (⟨#[109, 97, 120, 45, 97, 103, 101, 61, 48, 53]⟩ : ByteArray), .string (⟨#[120]⟩ : ByteArray), .string (⟨#[32]⟩ : ByteArray)]) (ok := fun _ => True) (okp := fun _ => True) ?hr ?hp (fun _ hk => hk) trivial (Below.refl _ _) (Nat.le_refl _) (by simp) ?_; (case hd => rfl); (case hg => rfl); (case hr => first | (go_simp; done) | (go_simp; rfl)); (case hp => exact rp); intro v930 w11 ho12 hb hg_ hnew_; clear hg_ hnew_; (first | rw [← Ny929.out] at ho12 | (simp only [Int.reduceToNat] at ho12; rw [← Ny929.out] at ho12)); have HO931 := am (Kd.R_lower ho12 (below_size u23HB)); replace HB := am (below_step u23HB hb); replace HI925 := am (IsS139.below u23HI925 hb); clear hb ho12; obtain ⟨Ao13, co13, eo13⟩ := Kd.R_slice HO931.out; subst eo13) | ((with_reducible refine gw ?_); refine gl 17 Tryz.func84 #[.pointer (some ⟨g925, 0, none⟩), .slice Ao13 y929.length co13] ?_; (with_reducible refine (spec_l1Pick.calls g925 t922 t927 t928 _ _ y929 t932 t933 t934 w _ ?side1 ?side2 ?side3 ?side4 ?side5 A6.out).mono ?_); (case side1 => exact u23HI925); (case side2 => exact u23HB); (case side3 => exact rc HO931); (case side4 => exact (Kd.R_reads' HO931.out).2.1); (case side5 => exact far_slice (IsS139.own_ne HI925.out HO931.out (by decide))); rintro e w14 ⟨rfl, hi, hb, hk⟩; refine ⟨_, rfl, ?_⟩; replace HO931 := am (Kd.R_mono (Kd.R_keep (IsS139.apart (show IsS139 w _ g925 t922 t927 t928 from u23HI925) (ro HO931) (by decide)) hk (fun _ h => h.2)) (fun _ h => h.1)); replace HB := am (hb); replace HI925 := am (hi); clear hb hk hi) | ((with_reducible refine gate_dst (N := 20) rfl ?_); refine Kd.R_lit Kd.string _ 9 ?hg (N := 20) ?hd (xs := ([(⟨#[44]⟩ : ByteArray), (⟨#[44, 32]⟩ : ByteArray), (⟨#[32, 44]⟩ : ByteArray), (⟨#[32]⟩ : ByteArray)] : List ByteArray)) (inner := [.string (⟨#[44]⟩ : ByteArray), .string (⟨#[44, 32]⟩ : ByteArray), .string (⟨#[32, 44]⟩ : ByteArray), .string (⟨#[32]⟩ : ByteArray)]) (ok := fun _ => True) (okp := fun _ => True) ?hr ?hp (fun _ hk => hk) trivial (Below.refl _ _) (Nat.le_refl _) (by simp) ?_; (case hd => rfl); (case hg => rfl); (case hr => first | (go_simp; done) | (go_simp; rfl)); (case hp => exact rp); intro v936 w15 ho16 hb hg_ hnew_; clear hg_ hnew_; (first | rw [← Ny935.out] at ho16 | (simp only [Int.reduceToNat] at ho16; rw [← Ny935.out] at ho16)); have HO937 := am (Kd.R_lower (Kd.R_new' ho16 (Kd.R_lt (ro HO931))) (below_size u23HB)); replace HO931 := am (Kd.R_elder' (ro HO931) (Kd.R_base ho16) hb); replace HB := am (below_step u23HB hb); replace HI925 := am (IsS139.below u23HI925 hb); clear hb ho16; obtain ⟨Ao17, co17, eo17⟩ := Kd.R_slice HO937.out; subst eo17) | ((with_reducible refine gw ?_); refine gl 21 Tryz.func84 #[.pointer (some ⟨g925, 0, none⟩), .slice Ao17 y935.length co17] ?_; (with_reducible refine (spec_l1Pick.calls g925 t922 t933 t934 _ _ y935 t938 t939 t940 w _ ?side1 ?side2 ?side3 ?side4 ?side5 A8.out).mono ?_); (case side1 => exact u23HI925); (case side2 => exact u23HB); (case side3 => exact rc HO937); (case side4 => exact (Kd.R_reads' HO937.out).2.1); (case side5 => exact far_slice (IsS139.own_ne HI925.out HO937.out (by decide))); rintro e w18 ⟨rfl, hi, hb, hk⟩; refine ⟨_, rfl, ?_⟩; replace HO931 := am (Kd.R_mono (Kd.R_keep (IsS139.apart (show IsS139 w _ g925 t922 t933 t934 from u23HI925) (ro HO931) (by decide)) hk (fun _ h => h.2)) (fun _ h => h.1)); replace HO937 := am (Kd.R_mono (Kd.R_keep (IsS139.apart (show IsS139 w _ g925 t922 t933 t934 from u23HI925) (ro HO937) (by decide)) hk (fun _ h => h.2)) (fun _ h => h.1)); replace HB := am (hb); replace HI925 := am (hi); clear hb hk hi))
   go_roundg k1
   case measure => have := HK1.out; omega
   case rel => exact ⟨((x4_1 ++ t932) ++ t938), (wrap64 (x5_1 + 1)), (t939), (t940), rs, rs, H', ⟨by have := HK1.out; omega⟩, ⟨u23HI925⟩, ⟨u23HB⟩⟩

/-! ### spec_DrawCcText: function 19 -/
theorem u19HB {p : Prop} (h : p := by repeat (first | (with_reducible first | exact HB.out | apply below_alloc | apply pw_below_drewN | apply below_drew1 | refine below_set ?_ GE941.out | refine below_set ?_ (IsS139.ge HI945.out) | refine below_set ?_ GE953.out) | exact HB.out)) : p := h
theorem u19HI945 {p : Prop} (h : p := by repeat (first | (with_reducible first | exact HI945.out | apply IsS139.alloc | apply IsS139.drewN | apply IsS139.drew | apply IsS139.set_1 | apply IsS139.set_2 | apply IsS139.far (p := ⟨gb941, _, none⟩) (hne := NB945_941.out) | apply IsS139.far (p := ⟨gb953, _, none⟩) (hne := NB945_953.out)) | exact HI945.out)) : p := h
def spec_DrawCcText.f (k : Nat) (l0 : List Int) : Option (Bool × Bool × Bool × Bool × Bool × Int) := (spec_l1New.f k l0).bind fun bt942 => ((spec_DrawCcRead.f k l0).bind fun t946 => ((spec_CcRead.f k t946).bind fun bt947 => ((spec_l1Below.f bt942.1 bt942.2.1 bt942.2.2 9).bind fun bt954 => (if bt954.1 = 0 then ((spec_l1PickInt.f bt942.1 bt954.2.1 bt954.2.2 (([(-1), 5, 1000001] : List Int))).bind fun bt960 => (some (bt947.1, bt947.2.1, bt947.2.2.1, bt947.2.2.2.1, bt947.2.2.2.2.1, bt960.1))) else (if bt954.1 = 1 then (some (bt947.1, bt947.2.1, bt947.2.2.1, bt947.2.2.2.1, !bt947.2.2.2.2.1, bt947.2.2.2.2.2)) else (some (bt947.1, bt947.2.1, bt947.2.2.1, bt947.2.2.2.1, bt947.2.2.2.2.1, bt947.2.2.2.2.2)))))))
theorem spec_DrawCcText.mono : ∀ a0 k, LeO (spec_DrawCcText.f k a0) (spec_DrawCcText.f (k + 1) a0) := by
 intro a0 k
 unfold spec_DrawCcText.f
 have m0 := @spec_CcRead.mono
 have m1 := @spec_DrawCcRead.mono
 have m2 := @spec_l1New.mono
 exact mo
set_option maxHeartbeats 8000000 in
set_option maxRecDepth 100000 in
theorem spec_DrawCcText.calls (k : Nat) (A0 : Option Addr) (c0 : Nat) (l0 : List Int) (r1 : Bool) (r2 : Bool) (r3 : Bool) (r4 : Bool) (r5 : Bool) (r6 : Int) (w : World) (hr0 : Kd.C (Kd.int .u8) w A0 l0.length l0) (hc0 : l0.length ≤ c0) (h : spec_DrawCcText.f k l0 = some (r1, r2, r3, r4, r5, r6)) :
  Calls Tryz.prog 19 #[.slice A0 l0.length c0] w fun e w' => e = .returned (.agg #[.bool r1, .bool r2, .bool r3, .bool r4, .bool r5, .int .i64 r6]) ∧ Below w.heap.size w w' := by
 have hu42 := Tryz.underlying42
 have HR0 := am hr0
 have HC0 := am hc0
 clear hr0 hc0
 have HB := am (Below.refl w.heap.size w)
 unfold spec_DrawCcText.f at h
 have H := h
 clear h
 revert H
 refine ok3 fun t942 t943 t944 A2 H => ?_
 (try dsimp only at H)
 revert H
 refine ok1 fun t946 A3 H => ?_
 revert H
 refine ok6 fun t947 t948 t949 t950 t951 t952 A4 H => ?_
 (try dsimp only at H)
 revert H
 refine ok3 fun t954 t955 t956 A5 H => ?_
 (try dsimp only at H)
 have HH6 := am H
 clear H
 go_enter Tryz.func19, Tryz.ntmps19
 go_upto_if 12 with ((with_reducible refine gw ?_); first | (refine bx 2 #[.bool false, .bool false, .bool false, .bool false, .bool false, .int .i64 0] 42 ?_; intro gb941 hg w7 hbox hb; have BK941 := am (hbox); have GW941 := am (sz hg : w.heap.size ≤ gb941); have GE941 := am (sz hg : w.heap.size ≤ gb941); replace HB := am (below_step bl hb); clear hb hbox hg) | (refine gl 6 Tryz.func59 #[.slice A0 l0.length c0] ?_; (with_reducible refine (spec_l1New.calls k _ _ l0 t942 t943 t944 w _ ?side1 ?side2 ?side3 A2.out).mono ?_); (case side1 => exact u19HB); (case side2 => exact HR0.out); (case side3 => exact HC0.out); rintro e w8 ⟨g945, rfl, hi, hb, hb2⟩; refine ⟨_, rfl, ?_⟩; replace HB := am (hb); have HI945 := am (hi); have NB945_941 := am (IsS139.ne_blk hi (blk_below (g := gb941) (o := .cells #[.bool false, .bool false, .bool false, .bool false, .bool false, .int .i64 0] 42 (0, 0)) (bk BK941) hb2) (by decide)); have NB941_945 := am (Ne.symm (IsS139.ne_blk hi (blk_below (g := gb941) (o := .cells #[.bool false, .bool false, .bool false, .bool false, .bool false, .int .i64 0] 42 (0, 0)) (bk BK941) hb2) (by decide))); replace BK941 := am (blk_below (g := gb941) (o := .cells #[.bool false, .bool false, .bool false, .bool false, .bool false, .int .i64 0] 42 (0, 0)) (bk BK941) hb2); clear hb hb2 hi) | (refine gl 8 Tryz.func23 #[.slice A0 l0.length c0] ?_; (with_reducible refine (spec_DrawCcRead.calls k _ _ l0 t946 _ ?side1 ?side2 A3.out).mono ?_); (case side1 => exact cb HR0); (case side2 => exact HC0.out); rintro e w9 ⟨rfl, hb⟩; refine ⟨_, rfl, ?_⟩; replace BK941 := kb BK941 hb; replace HB := am (below_step u19HB hb); replace HI945 := am (IsS139.below u19HI945 hb); clear hb) | (refine gl 9 Tryz.func25 #[.string t946] ?_; (with_reducible refine (spec_CcRead.calls k t946 t947 t948 t949 t950 t951 t952 _ A4.out).mono ?_); rintro e w10 ⟨rfl, hb⟩; refine ⟨_, rfl, ?_⟩; replace BK941 := kb BK941 hb; replace HB := am (below_step u19HB hb); replace HI945 := am (IsS139.below u19HI945 hb); clear hb) | (refine bx 4 #[.bool false, .bool false, .bool false, .bool false, .bool false, .int .i64 0] 42 ?_; intro gb953 hg w11 hbox hb; have n0_ := kb BK941 hb; have n1_ := am (IsS139.below u19HI945 hb); have n2_ := am (below_step u19HB hb); have n3_ := am (hbox); have n4_ := am ((by rw [hg]; exact (below_size u19HB) : w.heap.size ≤ gb953)); have n5_ := am ((by rw [hg]; exact (below_size u19HB) : w.heap.size ≤ gb953)); have n6_ := am (nl hg BK941 : gb941 ≠ gb953); have n7_ := am (ng hg BK941 : gb953 ≠ gb941); have n8_ := am ((by rw [hg]; exact Nat.ne_of_lt (IsS139.lt (show IsS139 w _ g945 t942 t943 t944 from u19HI945)) : g945 ≠ gb953)); have n9_ := am ((by rw [hg]; exact Nat.ne_of_gt (IsS139.lt (show IsS139 w _ g945 t942 t943 t944 from u19HI945)) : gb953 ≠ g945)); clear BK941; clear HI945; clear HB; have BK941 := n0_; have HI945 := n1_; have HB := n2_; have BK953 := n3_; have GW953 := n4_; have GE953 := n5_; have NB941_953 := n6_; have NB953_941 := n7_; have NB945_953 := n8_; have NB953_945 := n9_; clear n0_ n1_ n2_ n3_ n4_ n5_ n6_ n7_ n8_ n9_; clear hb hbox hg; have hnb12 := NB953_941.out; have hnc12 := NB941_953.out; have hnb13 := NB953_945.out; have hnc13 := NB945_953.out; obtain ⟨z14_0, y14_0, z14_1, y14_1, z14_2, y14_2, z14_3, y14_3, z14_4, y14_4, z14_5, y14_5⟩ := cl6 BK953) | (refine gl 11 Tryz.func74 #[.pointer (some ⟨g945, 0, none⟩), .int .i64 9] ?_; (with_reducible refine (spec_l1Below.calls g945 t942 t943 t944 9 t954 t955 t956 w _ ?side1 ?side2 A5.out).mono ?_); (case side1 => exact u19HI945); (case side2 => exact u19HB); rintro e w15 ⟨rfl, hi, hb, hk⟩; refine ⟨_, rfl, ?_⟩; replace BK941 := am (KeepBut.blk hk (g' := gb941) (o := .cells #[.bool false, .bool false, .bool false, .bool false, .bool false, .int .i64 0] 42 (0, 0)) (bg1 BK941 NB941_953) NB941_945.out (by simp)); replace BK953 := am (KeepBut.blk hk (g' := gb953) (o := .cells #[.bool t947, .bool t948, .bool t949, .bool t950, .bool t951, .int .i64 t952] 42 (0, 0)) (pt0 BK953) NB953_945.out (by simp)); replace HB := am (hb); replace HI945 := am (hi); clear hb hk hi))
 have H := HH6.out
 clear HH6
 by_cases c16 : t954 = 0
 rotate_left
 ·rw [if_neg c16] at H
  have c16b0 : (t954 == 0) = false := beq_eq_false_iff_ne.mpr c16
  have c16b1 : (t954 != 0) = true := bne_iff_ne.mpr c16
  (first | rw [c16b0] | (simp only [i64_w, i32_w]; rw [c16b0]) | skip)
  by_cases c27 : t954 = 1
  rotate_left
  ·rw [if_neg c27] at H
   have c27b0 : (t954 == 1) = false := beq_eq_false_iff_ne.mpr c27
   have c27b1 : (t954 != 1) = true := bne_iff_ne.mpr c27
   simp only [Option.some.injEq, Prod.mk.injEq] at H
   obtain ⟨rfl, rfl, rfl, rfl, rfl, rfl⟩ := H
   have hnb33 := NB953_941.out
   have hnc33 := NB941_953.out
   have hnb34 := NB953_945.out
   have hnc34 := NB945_953.out
   obtain ⟨z35_0, y35_0, z35_1, y35_1, z35_2, y35_2, z35_3, y35_3, z35_4, y35_4, z35_5, y35_5⟩ := cl6 BK953
   have hnb36 := NB941_945.out
   have hnc36 := NB945_941.out
   obtain ⟨z37_0, y37_0, z37_1, y37_1, z37_2, y37_2, z37_3, y37_3, z37_4, y37_4, z37_5, y37_5⟩ := cl6 BK941
   go_wp2
   refine bodyPost_ret (results_cell_row rfl _ _ gb941 42 #[.bool t947, .bool t948, .bool t949, .bool t950, .bool t951, .int .i64 t952] (0, 0) _ rfl (pt0 BK941) Tryz.underlying42 rfl (by kernel_rfl)) rfl ?_
   exact ⟨rf, u19HB⟩
  rw [if_pos c27] at H
  have c27b0 : (t954 == 1) = true := beq_iff_eq.mpr c27
  have c27b1 : (t954 != 1) = false := bne_eq_false_iff_eq.mpr c27
  clear c27
  simp only [Option.some.injEq, Prod.mk.injEq] at H
  obtain ⟨rfl, rfl, rfl, rfl, rfl, rfl⟩ := H
  have hnb28 := NB953_941.out
  have hnc28 := NB941_953.out
  have hnb29 := NB953_945.out
  have hnc29 := NB945_953.out
  obtain ⟨z30_0, y30_0, z30_1, y30_1, z30_2, y30_2, z30_3, y30_3, z30_4, y30_4, z30_5, y30_5⟩ := cl6 BK953
  have hnb31 := NB941_945.out
  have hnc31 := NB945_941.out
  obtain ⟨z32_0, y32_0, z32_1, y32_1, z32_2, y32_2, z32_3, y32_3, z32_4, y32_4, z32_5, y32_5⟩ := cl6 BK941
  go_wp2
  refine bodyPost_ret (results_cell_row rfl _ _ gb941 42 #[.bool t947, .bool t948, .bool t949, .bool t950, .bool (!t951), .int .i64 t952] (0, 0) _ rfl (pt1 BK941 NB941_953) Tryz.underlying42 rfl (by kernel_rfl)) rfl ?_
  exact ⟨rf, u19HB⟩
 rw [if_pos c16] at H
 have c16b0 : (t954 == 0) = true := beq_iff_eq.mpr c16
 have c16b1 : (t954 != 0) = false := bne_eq_false_iff_eq.mpr c16
 clear c16
 (first | rw [c16b0] | (simp only [i64_w, i32_w]; rw [c16b0]) | skip)
 obtain ⟨y957, hy957⟩ : ∃ y_ : List Int, y_ = (([(-1), 5, 1000001] : List Int)) := ⟨_, rfl⟩
 replace H : ((spec_l1PickInt.f t942 t955 t956 y957).bind fun bt960 => (some (t947, t948, t949, t950, t951, bt960.1))) = some (r1, r2, r3, r4, r5, r6) := by first | (rw [hy957]; with_reducible exact H) | (have H2_ := (Option.bind_some _ _).symm.trans H; rw [hy957]; with_reducible exact H2_) | (have H2_ := (Option.bind_some _ _).symm.trans H; with_reducible exact H2_) | with_reducible exact H | (rw [hy957]; exact H) | exact H
 have Ny957 := am hy957
 clear hy957
 revert H
 refine ok3 fun t960 t961 t962 A17 H => ?_
 (try dsimp only at H)
 simp only [Option.some.injEq, Prod.mk.injEq] at H
 obtain ⟨rfl, rfl, rfl, rfl, rfl, rfl⟩ := H
 go_wp2_with (first | ((with_reducible refine gate_dst (N := 15) rfl ?_); refine Kd.R_lit (Kd.int .i64) _ 3 ?hg (N := 15) ?hd (xs := ([(-1), 5, 1000001] : List Int)) (inner := [.int .i64 (-1), .int .i64 5, .int .i64 1000001]) (ok := fun _ => True) (okp := fun _ => True) ?hr ?hp (fun _ hk => hk) trivial (Below.refl _ _) (Nat.le_refl _) (by simp) ?_; (case hd => rfl); (case hg => rfl); (case hr => first | (go_simp; done) | (go_simp; rfl)); (case hp => exact rp); intro v958 w18 ho19 hb hg_ hnew_; clear hg_ hnew_; (first | rw [← Ny957.out] at ho19 | (simp only [Int.reduceToNat] at ho19; rw [← Ny957.out] at ho19)); have HO959 := am (Kd.R_lower ho19 (below_size u19HB)); replace BK941 := kb BK941 hb; replace BK953 := kb BK953 hb; replace HB := am (below_step u19HB hb); replace HI945 := am (IsS139.below u19HI945 hb); clear hb ho19; obtain ⟨Ao20, co20, eo20⟩ := Kd.R_slice HO959.out; subst eo20) | ((with_reducible refine gw ?_); first | (refine gl 16 Tryz.func75 #[.pointer (some ⟨g945, 0, none⟩), .slice Ao20 y957.length co20] ?_; (with_reducible refine (spec_l1PickInt.calls g945 t942 t955 t956 _ _ y957 t960 t961 t962 w _ ?side1 ?side2 ?side3 ?side4 ?side5 A17.out).mono ?_); (case side1 => exact u19HI945); (case side2 => exact u19HB); (case side3 => exact rc HO959); (case side4 => exact (Kd.R_reads' HO959.out).2.1); (case side5 => exact far_slice (IsS139.own_ne HI945.out HO959.out (by decide))); rintro e w21 ⟨rfl, hi, hb, hk⟩; refine ⟨_, rfl, ?_⟩; replace BK941 := kp BK941 hk NB941_945; replace BK953 := kp BK953 hk NB953_945; replace HO959 := am (Kd.R_mono (Kd.R_keep (IsS139.apart (show IsS139 w _ g945 t942 t955 t956 from u19HI945) (ro HO959) (by decide)) hk (fun _ h => h.2)) (fun _ h => h.1)); replace HB := am (hb); replace HI945 := am (hi); clear hb hk hi; have hnb22 := NB953_941.out; have hnc22 := NB941_953.out; have hnb23 := NB953_945.out; have hnc23 := NB945_953.out; obtain ⟨z24_0, y24_0, z24_1, y24_1, z24_2, y24_2, z24_3, y24_3, z24_4, y24_4, z24_5, y24_5⟩ := cl6 BK953; have hnb25 := NB941_945.out; have hnc25 := NB945_941.out; obtain ⟨z26_0, y26_0, z26_1, y26_1, z26_2, y26_2, z26_3, y26_3, z26_4, y26_4, z26_5, y26_5⟩ := cl6 BK941)))
 refine bodyPost_ret (results_cell_row rfl _ _ gb941 42 #[.bool t947, .bool t948, .bool t949, .bool t950, .bool t951, .int .i64 t960] (0, 0) _ rfl (pt1 BK941 NB941_953) Tryz.underlying42 rfl (by kernel_rfl)) rfl ?_
 exact ⟨rf, u19HB⟩

/-! ### an element of an array value -/
theorem run_index_plain {P : Program} (w : World) {t e : TypeId} {n : Nat} {cs : Array Value} {k : IntKind} {i : Int} {v : Value} {inf : TypeInfo} (h : P.underlying t = some (.array n e)) (he : P.plainKey e = true) (hinf : P.info? e = some inf) (hsz : P.cellsOf e = 1) (h0 : 0 ≤ i ∧ i < n) (hv : cs[i.toNat]? = some v) :
  (Instr.index t (.agg cs) (.int k i)).run P w = .ok v w := by
 simp [Instr.index, run_underlying h, asIntOf, h0, run_sizeOf w hinf, hsz, run_part_plain w he hv]

/-! ### strings.Join over a row of the call's own -/
def joinB (xs : List ByteArray) (sep : ByteArray) : ByteArray := ⟨(Lib.join (xs.map (·.data.toList)) sep.data.toList).toArray⟩
theorem joinOwn (xs : List ByteArray) (sep : ByteArray) (base : Nat) (ok : Nat → Prop) (v : Value) (W : World) (HO : Kd.R Kd.string 9 W base ok v xs) (hn : xs.length ≤ 140737488355328) (hlen : (Lib.join (xs.map (·.data.toList)) sep.data.toList).length ≤ 140737488355328) :
  Calls Tryz.prog 78 #[v, .string sep] W fun e w' => e = .returned (.string (joinB xs sep)) ∧ Below W.heap.size W w' := by
 cases xs with
 | nil =>
  obtain ⟨A, c, rfl⟩ := Kd.R_slice HO
  refine (Tryz.strings_Join_none A c sep W).mono ?_
  rintro e w' ⟨rfl, rfl⟩
  exact ⟨rfl, Below.refl _ _⟩
 | cons x r =>
  obtain ⟨g, cap, rfl, hb, hlt, _⟩ := Kd.R_form HO (by simp)
  obtain ⟨_, hc, hC⟩ := Kd.R_reads' HO
  refine Tryz.strings_Join g 0 cap (x :: r) sep W (fun j y hj => ?_) hlt hn hc hlen
  obtain ⟨hl, hy⟩ := List.getElem?_eq_some_iff.1 hj
  obtain ⟨ad, e1, h1⟩ := Kd.at_string hC (j : Int) (by omega) (by omega)
  cases e1
  rw [Lib.add_plain, Int.toNat_natCast] at h1
  rw [h1]
  simp [rdOf, List.getD, hj]

/-! ### impl.CcText -/
def ccSel (l : List (Bool × ByteArray)) : List ByteArray := (l.filter (·.1)).map (·.2)
def ccRow (f0 f1 f2 f3 : Bool) : List (Bool × ByteArray) := [(f0, (⟨#[110, 111, 45, 115, 116, 111, 114, 101]⟩ : ByteArray)), (f1, (⟨#[110, 111, 45, 99, 97, 99, 104, 101]⟩ : ByteArray)), (f2, (⟨#[112, 114, 105, 118, 97, 116, 101]⟩ : ByteArray)), (f3, (⟨#[109, 117, 115, 116, 45, 114, 101, 118, 97, 108, 105, 100, 97, 116, 101]⟩ : ByteArray))]
def ccTake (f0 f1 f2 f3 : Bool) (k : Nat) : List ByteArray := ccSel ((ccRow f0 f1 f2 f3).take k)
theorem ccTake_len (f0 f1 f2 f3 : Bool) (k : Nat) : (ccTake f0 f1 f2 f3 k).length ≤ 4 := by
 unfold ccTake ccSel
 rw [List.length_map]
 refine Nat.le_trans (List.length_filter_le _ _) ?_
 rw [List.length_take]
 exact Nat.min_le_right _ _
def impl_CcText.f (a0_0 : Bool) (a0_1 : Bool) (a0_2 : Bool) (a0_3 : Bool) (a0_4 : Bool) (a0_5 : Int) : Option ByteArray :=
 if a0_4 = true then (impl_inRange.f a0_5 0 1000000).bind fun t => if t = true then (impl_NumText.f a0_5).bind fun s => if s.size ≤ 1000 then some (joinB (ccTake a0_0 a0_1 a0_2 a0_3 4 ++ [(⟨#[109, 97, 120, 45, 97, 103, 101, 61]⟩ : ByteArray) ++ s]) ⟨#[44, 32]⟩) else none else some ⟨#[]⟩
 else some (joinB (ccTake a0_0 a0_1 a0_2 a0_3 4) ⟨#[44, 32]⟩)
theorem join_bound (sep : List UInt8) (n : Nat) : ∀ (l : List (List UInt8)), (∀ x ∈ l, x.length ≤ n) → (Lib.join l sep).length ≤ l.length * (n + sep.length)
 | [], _ => by simp [Lib.join_nil]
 | x :: r, h => by
  rw [Lib.join_cons]
  have h1 := h x (by simp)
  have h2 : ∀ r : List (List UInt8), (∀ x ∈ r, x.length ≤ n) → (Lib.joinTail sep r).length ≤ r.length * (n + sep.length) := by
   intro r
   induction r with
   | nil => intro _; simp [Lib.joinTail]
   | cons y r ih =>
    intro h
    have h3 := h y (by simp)
    have h4 := ih (fun x hx => h x (by simp [hx]))
    unfold Lib.joinTail at h4 ⊢
    simp only [List.map_cons, List.flatten_cons, List.length_append, List.length_cons, Nat.succ_mul]
    omega
  have h3 := h2 r (fun x hx => h x (by simp [hx]))
  simp only [List.length_append, List.length_cons, Nat.succ_mul]
  omega
theorem ccTake_small (f0 f1 f2 f3 : Bool) (k : Nat) : ∀ x ∈ (ccTake f0 f1 f2 f3 k).map (·.data.toList), x.length ≤ 1100 := by
 intro x hx
 obtain ⟨y, hy, rfl⟩ := List.mem_map.1 hx
 unfold ccTake ccSel at hy
 obtain ⟨z, hz, rfl⟩ := List.mem_map.1 hy
 have hz := List.mem_of_mem_take (List.mem_filter.1 hz).1
 simp only [ccRow, List.mem_cons, List.mem_nil_iff, or_false] at hz
 rcases hz with rfl | rfl | rfl | rfl <;> exact Nat.le_of_ble_eq_true rfl
theorem cc_join_bound (f0 f1 f2 f3 : Bool) (s : ByteArray) (hs : s.size ≤ 1000) : (Lib.join ((ccTake f0 f1 f2 f3 4 ++ [(⟨#[109, 97, 120, 45, 97, 103, 101, 61]⟩ : ByteArray) ++ s]).map (·.data.toList)) (⟨#[44, 32]⟩ : ByteArray).data.toList).length ≤ 140737488355328 := by
 have h1 := ccTake_len f0 f1 f2 f3 4
 refine Nat.le_trans (join_bound _ 1100 _ ?_) ?_
 ·intro x hx
  rw [List.map_append] at hx
  rcases List.mem_append.1 hx with hx | hx
  ·exact ccTake_small _ _ _ _ _ x hx
  ·simp only [List.map_cons, List.map_nil, List.mem_singleton] at hx
   rw [hx, ByteArray.data_append, Array.toList_append, List.length_append, data_length, data_length]
   have : (⟨#[109, 97, 120, 45, 97, 103, 101, 61]⟩ : ByteArray).size = 8 := rfl
   omega
 ·rw [List.length_map, List.length_append]
  have hh : (ccTake f0 f1 f2 f3 4).length + 1 ≤ 5 := by omega
  exact Nat.le_trans (Nat.mul_le_mul_right _ hh) (by rw [data_length]; exact Nat.le_of_ble_eq_true rfl)
theorem cc_new1 (w : World) (o o' : Obj) : ((w.alloc o).alloc o').heap[w.heap.size + 1]? = some o' := by
 have h := blk_new (w.alloc o) o'
 have e : (w.alloc o).heap.size = w.heap.size + 1 := by go_simp
 rw [e] at h
 exact h
theorem cc_new2 (w : World) (o o' : Obj) (n : Nat) : (((w.alloc o).drewN n).alloc o').heap[w.heap.size + 1]? = some o' := by
 have h := blk_new ((w.alloc o).drewN n) o'
 have e : ((w.alloc o).drewN n).heap.size = w.heap.size + 1 := by go_simp
 rw [e] at h
 exact h
set_option maxHeartbeats 16000000 in
set_option maxRecDepth 100000 in
theorem impl_CcText.calls (a0_0 : Bool) (a0_1 : Bool) (a0_2 : Bool) (a0_3 : Bool) (a0_4 : Bool) (a0_5 : Int) (r : ByteArray) (w : World) (hGT : GLOBT w) (h : impl_CcText.f a0_0 a0_1 a0_2 a0_3 a0_4 a0_5 = some r) :
  Calls Tryz.prog 20 #[.agg #[.bool a0_0, .bool a0_1, .bool a0_2, .bool a0_3, .bool a0_4, .int .i64 a0_5]] w fun e w' => e = .returned (.string r) ∧ Below w.heap.size w w' := by
 have HGT := am hGT
 clear hGT
 have HB := am (Below.refl w.heap.size w)
 obtain ⟨inf, hinf, _⟩ := Option.map_eq_some_iff.1 (show (Tryz.prog.info? 9).map (fun i => i.size) = some 1 by kernel_rfl)
 have HINF := am hinf
 clear hinf
 unfold impl_CcText.f at h
 cases a0_4 with
 | true =>
  rw [if_pos rfl] at h
  obtain ⟨t, ht, h⟩ := Option.bind_eq_some_iff.mp h
  have HT1 := am ht
  clear ht
  cases t with
  | false =>
   rw [if_neg (by simp)] at h
   obtain rfl := Option.some.inj h
   clear h
   go_enter Tryz.func20, Tryz.ntmps20
   go_wp2_with (first | (go_at_call 76; refine (impl_inRange.calls _ _ _ _ _ HT1.out).mono ?_; rintro e w1 ⟨rfl, ⟨nd, rfl⟩⟩))
   go_ret
   exact ⟨rfl, pw_below_drewN (below_alloc (Below.refl _ _) _) _⟩
  | true =>
   rw [if_pos rfl] at h
   obtain ⟨s, hs, h⟩ := Option.bind_eq_some_iff.mp h
   have HT2 := am hs
   clear hs
   by_cases hsz : s.size ≤ 1000
   case neg => rw [if_neg hsz] at h; cases h
   rw [if_pos hsz] at h
   obtain rfl := Option.some.inj h
   clear h
   have s0 : (8 : Nat) + s.size ≤ 9223372036854775807 := by omega
   have HSZ := am hsz
   clear hsz
   go_enter Tryz.func20, Tryz.ntmps20
   go_wp2_with (first | (go_at_call 76; refine (impl_inRange.calls _ _ _ _ _ HT1.out).mono ?_; rintro e w1 ⟨rfl, ⟨nd, rfl⟩⟩))
   go_loopw [3, 25] (fun v3 v25 wr => ∃ k : Nat, k ≤ 4 ∧ v25 = .int .i64 k ∧ Aside0 (Kd.R Kd.string 9 wr w.heap.size (fun k_ => k_ ≠ w.heap.size ∧ k_ ≠ w.heap.size + 1) v3 (ccTake a0_0 a0_1 a0_2 a0_3 k)) ∧ Aside0 (wr.heap[w.heap.size]? = some (.cells #[.bool a0_0, .bool a0_1, .bool a0_2, .bool a0_3, .bool true, .int .i64 a0_5] 42 (0, 0))) ∧ Aside0 (wr.heap[w.heap.size + 1]? = some (.cells #[.bool a0_0, .bool a0_1, .bool a0_2, .bool a0_3] 100 (0, 0))) ∧ Aside0 (Below w.heap.size w wr)) (fun _ v25 _ => 4 - (intOf v25).toNat)
   case atStart => exact ⟨0, by omega, rfl, ⟨Kd.R_nil _ _ _ _ _⟩, ⟨blk_alloc (blk_drewN (blk_new w _) _) _⟩, ⟨cc_new2 _ _ _ _⟩, ⟨by repeat (first | apply below_alloc | apply pw_below_drewN | exact Below.refl _ _)⟩⟩
   case round =>
    obtain ⟨k, hk, rfl, HO, HC, HF, HB⟩ := hrel
    have hk2 : (k : Int) ≤ 4 := by omega
    have HLEN := am (ccTake_len a0_0 a0_1 a0_2 a0_3 k)
    by_cases hlt : k < 4
    ·have hk3 : k = 0 ∨ k = 1 ∨ k = 2 ∨ k = 3 := by omega
     clear hk2 hk hlt
     rcases hk3 with rfl | rfl | rfl | rfl
     ·have hfl := blk_cell HF.out 0
      cases a0_0 with
      | true =>
       go_wp2
       rw [run_index_plain wr (v := .string (⟨#[110, 111, 45, 115, 116, 111, 114, 101]⟩ : ByteArray)) Tryz.underlying101 (by kernel_rfl) HINF.out (by kernel_rfl) (by decide) rfl]
       simp only [Result.andThen]
       rw [Oper.upon_value]
       go_wp2_with (first | ((with_reducible refine gate_builtin (b := .append) (xs := #[.tmp 32, .tmp 34]) rfl ?_); at_builtin; refine Kd.R_append Kd.string (w0 := w) w.heap.size rfl (.tmp 32) (.tmp 34) 26 9 (.string ⟨#[]⟩) 16 rfl Tryz.underlying26 info9 rfl (by decide) (by omega) u3 (ccTake true a0_1 a0_2 a0_3 0) (⟨#[110, 111, 45, 115, 116, 111, 114, 101]⟩ : ByteArray) [.string (⟨#[110, 111, 45, 115, 116, 111, 114, 101]⟩ : ByteArray)] (fun k_ => k_ ≠ w.heap.size ∧ k_ ≠ w.heap.size + 1) (fun _ => False) rfl rfl ?aP (fun _ hk => hk.elim) ?aF ?aO ?aB ?aS ?aL ?_; (case aP => exact rfl); (case aB => exact bl); (case aF => exact (fun k_ hk => by have h_ := blk_lt (bk HF); exact ⟨by omega, by omega⟩)); (case aO => exact (ro HO)); (case aS => exact (below_size bl)); (case aL => have h_ := HLEN.out; omega); intro v1 w1 ho hb hg hat; have HF1 := am (blk_grown (bk HF) hg (Kd.R_away HO.out (fun _ hk => hk.2))); have HC1 := am (blk_grown (bk HC) hg (Kd.R_away HO.out (fun _ hk => hk.1))); have HO1 := am ho; have HB1 := am hb; clear ho hb hg hat))
       go_roundw
       case rel => exact ⟨1, by omega, by go_num, ⟨by rw [show ccTake true a0_1 a0_2 a0_3 1 = ccTake true a0_1 a0_2 a0_3 0 ++ [(⟨#[110, 111, 45, 115, 116, 111, 114, 101]⟩ : ByteArray)] from by rfl]; exact HO1.out⟩, HC1, HF1, HB1⟩
       case measure => simp [intOf]
      | false =>
       go_wp2
       rw [run_index_plain wr (v := .string (⟨#[110, 111, 45, 115, 116, 111, 114, 101]⟩ : ByteArray)) Tryz.underlying101 (by kernel_rfl) HINF.out (by kernel_rfl) (by decide) rfl]
       simp only [Result.andThen]
       rw [Oper.upon_value]
       go_wp2
       go_roundw
       case rel => exact ⟨1, by omega, by go_num, ⟨by rw [show ccTake false a0_1 a0_2 a0_3 1 = ccTake false a0_1 a0_2 a0_3 0 from by rfl]; exact HO.out⟩, HC, HF, HB⟩
       case measure => simp [intOf]
     ·have hfl := blk_cell HF.out 1
      cases a0_1 with
      | true =>
       go_wp2
       rw [run_index_plain wr (v := .string (⟨#[110, 111, 45, 99, 97, 99, 104, 101]⟩ : ByteArray)) Tryz.underlying101 (by kernel_rfl) HINF.out (by kernel_rfl) (by decide) rfl]
       simp only [Result.andThen]
       rw [Oper.upon_value]
       go_wp2_with (first | ((with_reducible refine gate_builtin (b := .append) (xs := #[.tmp 32, .tmp 34]) rfl ?_); at_builtin; refine Kd.R_append Kd.string (w0 := w) w.heap.size rfl (.tmp 32) (.tmp 34) 26 9 (.string ⟨#[]⟩) 16 rfl Tryz.underlying26 info9 rfl (by decide) (by omega) u3 (ccTake a0_0 true a0_2 a0_3 1) (⟨#[110, 111, 45, 99, 97, 99, 104, 101]⟩ : ByteArray) [.string (⟨#[110, 111, 45, 99, 97, 99, 104, 101]⟩ : ByteArray)] (fun k_ => k_ ≠ w.heap.size ∧ k_ ≠ w.heap.size + 1) (fun _ => False) rfl rfl ?aP (fun _ hk => hk.elim) ?aF ?aO ?aB ?aS ?aL ?_; (case aP => exact rfl); (case aB => exact bl); (case aF => exact (fun k_ hk => by have h_ := blk_lt (bk HF); exact ⟨by omega, by omega⟩)); (case aO => exact (ro HO)); (case aS => exact (below_size bl)); (case aL => have h_ := HLEN.out; omega); intro v1 w1 ho hb hg hat; have HF1 := am (blk_grown (bk HF) hg (Kd.R_away HO.out (fun _ hk => hk.2))); have HC1 := am (blk_grown (bk HC) hg (Kd.R_away HO.out (fun _ hk => hk.1))); have HO1 := am ho; have HB1 := am hb; clear ho hb hg hat))
       go_roundw
       case rel => exact ⟨2, by omega, by go_num, ⟨by rw [show ccTake a0_0 true a0_2 a0_3 2 = ccTake a0_0 true a0_2 a0_3 1 ++ [(⟨#[110, 111, 45, 99, 97, 99, 104, 101]⟩ : ByteArray)] from by cases a0_0 <;> rfl]; exact HO1.out⟩, HC1, HF1, HB1⟩
       case measure => simp [intOf]
      | false =>
       go_wp2
       rw [run_index_plain wr (v := .string (⟨#[110, 111, 45, 99, 97, 99, 104, 101]⟩ : ByteArray)) Tryz.underlying101 (by kernel_rfl) HINF.out (by kernel_rfl) (by decide) rfl]
       simp only [Result.andThen]
       rw [Oper.upon_value]
       go_wp2
       go_roundw
       case rel => exact ⟨2, by omega, by go_num, ⟨by rw [show ccTake a0_0 false a0_2 a0_3 2 = ccTake a0_0 false a0_2 a0_3 1 from by cases a0_0 <;> rfl]; exact HO.out⟩, HC, HF, HB⟩
       case measure => simp [intOf]
     ·have hfl := blk_cell HF.out 2
      cases a0_2 with
      | true =>
       go_wp2
       rw [run_index_plain wr (v := .string (⟨#[112, 114, 105, 118, 97, 116, 101]⟩ : ByteArray)) Tryz.underlying101 (by kernel_rfl) HINF.out (by kernel_rfl) (by decide) rfl]
       simp only [Result.andThen]
       rw [Oper.upon_value]
       go_wp2_with (first | ((with_reducible refine gate_builtin (b := .append) (xs := #[.tmp 32, .tmp 34]) rfl ?_); at_builtin; refine Kd.R_append Kd.string (w0 := w) w.heap.size rfl (.tmp 32) (.tmp 34) 26 9 (.string ⟨#[]⟩) 16 rfl Tryz.underlying26 info9 rfl (by decide) (by omega) u3 (ccTake a0_0 a0_1 true a0_3 2) (⟨#[112, 114, 105, 118, 97, 116, 101]⟩ : ByteArray) [.string (⟨#[112, 114, 105, 118, 97, 116, 101]⟩ : ByteArray)] (fun k_ => k_ ≠ w.heap.size ∧ k_ ≠ w.heap.size + 1) (fun _ => False) rfl rfl ?aP (fun _ hk => hk.elim) ?aF ?aO ?aB ?aS ?aL ?_; (case aP => exact rfl); (case aB => exact bl); (case aF => exact (fun k_ hk => by have h_ := blk_lt (bk HF); exact ⟨by omega, by omega⟩)); (case aO => exact (ro HO)); (case aS => exact (below_size bl)); (case aL => have h_ := HLEN.out; omega); intro v1 w1 ho hb hg hat; have HF1 := am (blk_grown (bk HF) hg (Kd.R_away HO.out (fun _ hk => hk.2))); have HC1 := am (blk_grown (bk HC) hg (Kd.R_away HO.out (fun _ hk => hk.1))); have HO1 := am ho; have HB1 := am hb; clear ho hb hg hat))
       go_roundw
       case rel => exact ⟨3, by omega, by go_num, ⟨by rw [show ccTake a0_0 a0_1 true a0_3 3 = ccTake a0_0 a0_1 true a0_3 2 ++ [(⟨#[112, 114, 105, 118, 97, 116, 101]⟩ : ByteArray)] from by cases a0_0 <;> cases a0_1 <;> rfl]; exact HO1.out⟩, HC1, HF1, HB1⟩
       case measure => simp [intOf]
      | false =>
       go_wp2
       rw [run_index_plain wr (v := .string (⟨#[112, 114, 105, 118, 97, 116, 101]⟩ : ByteArray)) Tryz.underlying101 (by kernel_rfl) HINF.out (by kernel_rfl) (by decide) rfl]
       simp only [Result.andThen]
       rw [Oper.upon_value]
       go_wp2
       go_roundw
       case rel => exact ⟨3, by omega, by go_num, ⟨by rw [show ccTake a0_0 a0_1 false a0_3 3 = ccTake a0_0 a0_1 false a0_3 2 from by cases a0_0 <;> cases a0_1 <;> rfl]; exact HO.out⟩, HC, HF, HB⟩
       case measure => simp [intOf]
     ·have hfl := blk_cell HF.out 3
      cases a0_3 with
      | true =>
       go_wp2
       rw [run_index_plain wr (v := .string (⟨#[109, 117, 115, 116, 45, 114, 101, 118, 97, 108, 105, 100, 97, 116, 101]⟩ : ByteArray)) Tryz.underlying101 (by kernel_rfl) HINF.out (by kernel_rfl) (by decide) rfl]
       simp only [Result.andThen]
       rw [Oper.upon_value]
       go_wp2_with (first | ((with_reducible refine gate_builtin (b := .append) (xs := #[.tmp 32, .tmp 34]) rfl ?_); at_builtin; refine Kd.R_append Kd.string (w0 := w) w.heap.size rfl (.tmp 32) (.tmp 34) 26 9 (.string ⟨#[]⟩) 16 rfl Tryz.underlying26 info9 rfl (by decide) (by omega) u3 (ccTake a0_0 a0_1 a0_2 true 3) (⟨#[109, 117, 115, 116, 45, 114, 101, 118, 97, 108, 105, 100, 97, 116, 101]⟩ : ByteArray) [.string (⟨#[109, 117, 115, 116, 45, 114, 101, 118, 97, 108, 105, 100, 97, 116, 101]⟩ : ByteArray)] (fun k_ => k_ ≠ w.heap.size ∧ k_ ≠ w.heap.size + 1) (fun _ => False) rfl rfl ?aP (fun _ hk => hk.elim) ?aF ?aO ?aB ?aS ?aL ?_; (case aP => exact rfl); (case aB => exact bl); (case aF => exact (fun k_ hk => by have h_ := blk_lt (bk HF); exact ⟨by omega, by omega⟩)); (case aO => exact (ro HO)); (case aS => exact (below_size bl)); (case aL => have h_ := HLEN.out; omega); intro v1 w1 ho hb hg hat; have HF1 := am (blk_grown (bk HF) hg (Kd.R_away HO.out (fun _ hk => hk.2))); have HC1 := am (blk_grown (bk HC) hg (Kd.R_away HO.out (fun _ hk => hk.1))); have HO1 := am ho; have HB1 := am hb; clear ho hb hg hat))
       go_roundw
       case rel => exact ⟨4, by omega, by go_num, ⟨by rw [show ccTake a0_0 a0_1 a0_2 true 4 = ccTake a0_0 a0_1 a0_2 true 3 ++ [(⟨#[109, 117, 115, 116, 45, 114, 101, 118, 97, 108, 105, 100, 97, 116, 101]⟩ : ByteArray)] from by cases a0_0 <;> cases a0_1 <;> cases a0_2 <;> rfl]; exact HO1.out⟩, HC1, HF1, HB1⟩
       case measure => simp [intOf]
      | false =>
       go_wp2
       rw [run_index_plain wr (v := .string (⟨#[109, 117, 115, 116, 45, 114, 101, 118, 97, 108, 105, 100, 97, 116, 101]⟩ : ByteArray)) Tryz.underlying101 (by kernel_rfl) HINF.out (by kernel_rfl) (by decide) rfl]
       simp only [Result.andThen]
       rw [Oper.upon_value]
       go_wp2
       go_roundw
       case rel => exact ⟨4, by omega, by go_num, ⟨by rw [show ccTake a0_0 a0_1 a0_2 false 4 = ccTake a0_0 a0_1 a0_2 false 3 from by cases a0_0 <;> cases a0_1 <;> cases a0_2 <;> rfl]; exact HO.out⟩, HC, HF, HB⟩
       case measure => simp [intOf]
    ·have hk4 : k = 4 := by omega
     subst hk4
     clear hk2 hk hlt
     have g4 := blk_cell HC.out 4
     have g5 := blk_cell HC.out 5
     go_wp2_with (first | (go_at_call 77; refine (impl_NumText.calls a0_5 s _ ?hg HT2.out).mono ?_; (case hg => exact GLOBT.below HGT.out bl); rintro e w5 ⟨rfl, hb⟩; have HB5 := am (below_step bl hb); have HO5 := am (Kd.R_below (ro HO) hb); have HF5 := am (blk_below (bk HF) hb); have HC5 := am (blk_below (bk HC) hb); clear hb HO HF HC HB; have HO := HO5; have HF := HF5; have HC := HC5; have HB := HB5; clear HO5 HF5 HC5 HB5) | ((with_reducible refine gate_builtin (b := .append) (xs := #[.tmp 39, .tmp 44]) rfl ?_); at_builtin; refine Kd.R_append Kd.string (w0 := w) w.heap.size rfl (.tmp 39) (.tmp 44) 26 9 (.string ⟨#[]⟩) 16 rfl Tryz.underlying26 info9 rfl (by decide) (by omega) u3 (ccTake a0_0 a0_1 a0_2 a0_3 4) ((⟨#[109, 97, 120, 45, 97, 103, 101, 61]⟩ : ByteArray) ++ s) [.string ((⟨#[109, 97, 120, 45, 97, 103, 101, 61]⟩ : ByteArray) ++ s)] (fun k_ => k_ ≠ w.heap.size ∧ k_ ≠ w.heap.size + 1) (fun _ => False) rfl rfl ?aP (fun _ hk => hk.elim) ?aF ?aO ?aB ?aS ?aL ?_; (case aP => exact rfl); (case aB => exact bl); (case aF => exact (fun k_ hk => by have h_ := blk_lt (bk HF); exact ⟨by omega, by omega⟩)); (case aO => exact (ro HO)); (case aS => exact (below_size bl)); (case aL => have h_ := HLEN.out; omega); intro v1 w1 ho hb hg hat; have HF1 := am (blk_grown (bk HF) hg (Kd.R_away HO.out (fun _ hk => hk.2))); have HC1 := am (blk_grown (bk HC) hg (Kd.R_away HO.out (fun _ hk => hk.1))); have HO1 := am ho; have HB1 := am hb; clear ho hb hg hat) | (go_at_call 78; refine (joinOwn _ _ w.heap.size _ _ _ HO1.out (by have h_ := HLEN.out; simp; omega) ?hj).mono ?_; (case hj => exact cc_join_bound _ _ _ _ _ HSZ.out); rintro e w6 ⟨rfl, hb⟩; have HB6 := am (below_step HB1.out hb); clear hb))
     go_ret
     exact ⟨rfl, HB6.out⟩
 | false =>
  rw [if_neg (by simp)] at h
  obtain rfl := Option.some.inj h
  clear h
  go_enter Tryz.func20, Tryz.ntmps20
  go_wp2
  go_loopw [3, 25] (fun v3 v25 wr => ∃ k : Nat, k ≤ 4 ∧ v25 = .int .i64 k ∧ Aside0 (Kd.R Kd.string 9 wr w.heap.size (fun k_ => k_ ≠ w.heap.size ∧ k_ ≠ w.heap.size + 1) v3 (ccTake a0_0 a0_1 a0_2 a0_3 k)) ∧ Aside0 (wr.heap[w.heap.size]? = some (.cells #[.bool a0_0, .bool a0_1, .bool a0_2, .bool a0_3, .bool false, .int .i64 a0_5] 42 (0, 0))) ∧ Aside0 (wr.heap[w.heap.size + 1]? = some (.cells #[.bool a0_0, .bool a0_1, .bool a0_2, .bool a0_3] 100 (0, 0))) ∧ Aside0 (Below w.heap.size w wr)) (fun _ v25 _ => 4 - (intOf v25).toNat)
  case atStart => exact ⟨0, by omega, rfl, ⟨Kd.R_nil _ _ _ _ _⟩, ⟨blk_alloc (blk_new w _) _⟩, ⟨cc_new1 _ _ _⟩, ⟨by repeat (first | apply below_alloc | apply pw_below_drewN | exact Below.refl _ _)⟩⟩
  case round =>
   obtain ⟨k, hk, rfl, HO, HC, HF, HB⟩ := hrel
   have hk2 : (k : Int) ≤ 4 := by omega
   have HLEN := am (ccTake_len a0_0 a0_1 a0_2 a0_3 k)
   by_cases hlt : k < 4
   ·have hk3 : k = 0 ∨ k = 1 ∨ k = 2 ∨ k = 3 := by omega
    clear hk2 hk hlt
    rcases hk3 with rfl | rfl | rfl | rfl
    ·have hfl := blk_cell HF.out 0
     cases a0_0 with
     | true =>
      go_wp2
      rw [run_index_plain wr (v := .string (⟨#[110, 111, 45, 115, 116, 111, 114, 101]⟩ : ByteArray)) Tryz.underlying101 (by kernel_rfl) HINF.out (by kernel_rfl) (by decide) rfl]
      simp only [Result.andThen]
      rw [Oper.upon_value]
      go_wp2_with (first | ((with_reducible refine gate_builtin (b := .append) (xs := #[.tmp 32, .tmp 34]) rfl ?_); at_builtin; refine Kd.R_append Kd.string (w0 := w) w.heap.size rfl (.tmp 32) (.tmp 34) 26 9 (.string ⟨#[]⟩) 16 rfl Tryz.underlying26 info9 rfl (by decide) (by omega) u3 (ccTake true a0_1 a0_2 a0_3 0) (⟨#[110, 111, 45, 115, 116, 111, 114, 101]⟩ : ByteArray) [.string (⟨#[110, 111, 45, 115, 116, 111, 114, 101]⟩ : ByteArray)] (fun k_ => k_ ≠ w.heap.size ∧ k_ ≠ w.heap.size + 1) (fun _ => False) rfl rfl ?aP (fun _ hk => hk.elim) ?aF ?aO ?aB ?aS ?aL ?_; (case aP => exact rfl); (case aB => exact bl); (case aF => exact (fun k_ hk => by have h_ := blk_lt (bk HF); exact ⟨by omega, by omega⟩)); (case aO => exact (ro HO)); (case aS => exact (below_size bl)); (case aL => have h_ := HLEN.out; omega); intro v1 w1 ho hb hg hat; have HF1 := am (blk_grown (bk HF) hg (Kd.R_away HO.out (fun _ hk => hk.2))); have HC1 := am (blk_grown (bk HC) hg (Kd.R_away HO.out (fun _ hk => hk.1))); have HO1 := am ho; have HB1 := am hb; clear ho hb hg hat))
      go_roundw
      case rel => exact ⟨1, by omega, by go_num, ⟨by rw [show ccTake true a0_1 a0_2 a0_3 1 = ccTake true a0_1 a0_2 a0_3 0 ++ [(⟨#[110, 111, 45, 115, 116, 111, 114, 101]⟩ : ByteArray)] from by rfl]; exact HO1.out⟩, HC1, HF1, HB1⟩
      case measure => simp [intOf]
     | false =>
      go_wp2
      rw [run_index_plain wr (v := .string (⟨#[110, 111, 45, 115, 116, 111, 114, 101]⟩ : ByteArray)) Tryz.underlying101 (by kernel_rfl) HINF.out (by kernel_rfl) (by decide) rfl]
      simp only [Result.andThen]
      rw [Oper.upon_value]
      go_wp2
      go_roundw
      case rel => exact ⟨1, by omega, by go_num, ⟨by rw [show ccTake false a0_1 a0_2 a0_3 1 = ccTake false a0_1 a0_2 a0_3 0 from by rfl]; exact HO.out⟩, HC, HF, HB⟩
      case measure => simp [intOf]
    ·have hfl := blk_cell HF.out 1
     cases a0_1 with
     | true =>
      go_wp2
      rw [run_index_plain wr (v := .string (⟨#[110, 111, 45, 99, 97, 99, 104, 101]⟩ : ByteArray)) Tryz.underlying101 (by kernel_rfl) HINF.out (by kernel_rfl) (by decide) rfl]
      simp only [Result.andThen]
      rw [Oper.upon_value]
      go_wp2_with (first | ((with_reducible refine gate_builtin (b := .append) (xs := #[.tmp 32, .tmp 34]) rfl ?_); at_builtin; refine Kd.R_append Kd.string (w0 := w) w.heap.size rfl (.tmp 32) (.tmp 34) 26 9 (.string ⟨#[]⟩) 16 rfl Tryz.underlying26 info9 rfl (by decide) (by omega) u3 (ccTake a0_0 true a0_2 a0_3 1) (⟨#[110, 111, 45, 99, 97, 99, 104, 101]⟩ : ByteArray) [.string (⟨#[110, 111, 45, 99, 97, 99, 104, 101]⟩ : ByteArray)] (fun k_ => k_ ≠ w.heap.size ∧ k_ ≠ w.heap.size + 1) (fun _ => False) rfl rfl ?aP (fun _ hk => hk.elim) ?aF ?aO ?aB ?aS ?aL ?_; (case aP => exact rfl); (case aB => exact bl); (case aF => exact (fun k_ hk => by have h_ := blk_lt (bk HF); exact ⟨by omega, by omega⟩)); (case aO => exact (ro HO)); (case aS => exact (below_size bl)); (case aL => have h_ := HLEN.out; omega); intro v1 w1 ho hb hg hat; have HF1 := am (blk_grown (bk HF) hg (Kd.R_away HO.out (fun _ hk => hk.2))); have HC1 := am (blk_grown (bk HC) hg (Kd.R_away HO.out (fun _ hk => hk.1))); have HO1 := am ho; have HB1 := am hb; clear ho hb hg hat))
      go_roundw
      case rel => exact ⟨2, by omega, by go_num, ⟨by rw [show ccTake a0_0 true a0_2 a0_3 2 = ccTake a0_0 true a0_2 a0_3 1 ++ [(⟨#[110, 111, 45, 99, 97, 99, 104, 101]⟩ : ByteArray)] from by cases a0_0 <;> rfl]; exact HO1.out⟩, HC1, HF1, HB1⟩
      case measure => simp [intOf]
     | false =>
      go_wp2
      rw [run_index_plain wr (v := .string (⟨#[110, 111, 45, 99, 97, 99, 104, 101]⟩ : ByteArray)) Tryz.underlying101 (by kernel_rfl) HINF.out (by kernel_rfl) (by decide) rfl]
      simp only [Result.andThen]
      rw [Oper.upon_value]
      go_wp2
      go_roundw
      case rel => exact ⟨2, by omega, by go_num, ⟨by rw [show ccTake a0_0 false a0_2 a0_3 2 = ccTake a0_0 false a0_2 a0_3 1 from by cases a0_0 <;> rfl]; exact HO.out⟩, HC, HF, HB⟩
      case measure => simp [intOf]
    ·have hfl := blk_cell HF.out 2
     cases a0_2 with
     | true =>
      go_wp2
      rw [run_index_plain wr (v := .string (⟨#[112, 114, 105, 118, 97, 116, 101]⟩ : ByteArray)) Tryz.underlying101 (by kernel_rfl) HINF.out (by kernel_rfl) (by decide) rfl]
      simp only [Result.andThen]
      rw [Oper.upon_value]
      go_wp2_with (first | ((with_reducible refine gate_builtin (b := .append) (xs := #[.tmp 32, .tmp 34]) rfl ?_); at_builtin; refine Kd.R_append Kd.string (w0 := w) w.heap.size rfl (.tmp 32) (.tmp 34) 26 9 (.string ⟨#[]⟩) 16 rfl Tryz.underlying26 info9 rfl (by decide) (by omega) u3 (ccTake a0_0 a0_1 true a0_3 2) (⟨#[112, 114, 105, 118, 97, 116, 101]⟩ : ByteArray) [.string (⟨#[112, 114, 105, 118, 97, 116, 101]⟩ : ByteArray)] (fun k_ => k_ ≠ w.heap.size ∧ k_ ≠ w.heap.size + 1) (fun _ => False) rfl rfl ?aP (fun _ hk => hk.elim) ?aF ?aO ?aB ?aS ?aL ?_; (case aP => exact rfl); (case aB => exact bl); (case aF => exact (fun k_ hk => by have h_ := blk_lt (bk HF); exact ⟨by omega, by omega⟩)); (case aO => exact (ro HO)); (case aS => exact (below_size bl)); (case aL => have h_ := HLEN.out; omega); intro v1 w1 ho hb hg hat; have HF1 := am (blk_grown (bk HF) hg (Kd.R_away HO.out (fun _ hk => hk.2))); have HC1 := am (blk_grown (bk HC) hg (Kd.R_away HO.out (fun _ hk => hk.1))); have HO1 := am ho; have HB1 := am hb; clear ho hb hg hat))
      go_roundw
      case rel => exact ⟨3, by omega, by go_num, ⟨by rw [show ccTake a0_0 a0_1 true a0_3 3 = ccTake a0_0 a0_1 true a0_3 2 ++ [(⟨#[112, 114, 105, 118, 97, 116, 101]⟩ : ByteArray)] from by cases a0_0 <;> cases a0_1 <;> rfl]; exact HO1.out⟩, HC1, HF1, HB1⟩
      case measure => simp [intOf]
     | false =>
      go_wp2
      rw [run_index_plain wr (v := .string (⟨#[112, 114, 105, 118, 97, 116, 101]⟩ : ByteArray)) Tryz.underlying101 (by kernel_rfl) HINF.out (by kernel_rfl) (by decide) rfl]
      simp only [Result.andThen]
      rw [Oper.upon_value]
      go_wp2
      go_roundw
      case rel => exact ⟨3, by omega, by go_num, ⟨by rw [show ccTake a0_0 a0_1 false a0_3 3 = ccTake a0_0 a0_1 false a0_3 2 from by cases a0_0 <;> cases a0_1 <;> rfl]; exact HO.out⟩, HC, HF, HB⟩
      case measure => simp [intOf]
    ·have hfl := blk_cell HF.out 3
     cases a0_3 with
     | true =>
      go_wp2
      rw [run_index_plain wr (v := .string (⟨#[109, 117, 115, 116, 45, 114, 101, 118, 97, 108, 105, 100, 97, 116, 101]⟩ : ByteArray)) Tryz.underlying101 (by kernel_rfl) HINF.out (by kernel_rfl) (by decide) rfl]
      simp only [Result.andThen]
      rw [Oper.upon_value]
      go_wp2_with (first | ((with_reducible refine gate_builtin (b := .append) (xs := #[.tmp 32, .tmp 34]) rfl ?_); at_builtin; refine Kd.R_append Kd.string (w0 := w) w.heap.size rfl (.tmp 32) (.tmp 34) 26 9 (.string ⟨#[]⟩) 16 rfl Tryz.underlying26 info9 rfl (by decide) (by omega) u3 (ccTake a0_0 a0_1 a0_2 true 3) (⟨#[109, 117, 115, 116, 45, 114, 101, 118, 97, 108, 105, 100, 97, 116, 101]⟩ : ByteArray) [.string (⟨#[109, 117, 115, 116, 45, 114, 101, 118, 97, 108, 105, 100, 97, 116, 101]⟩ : ByteArray)] (fun k_ => k_ ≠ w.heap.size ∧ k_ ≠ w.heap.size + 1) (fun _ => False) rfl rfl ?aP (fun _ hk => hk.elim) ?aF ?aO ?aB ?aS ?aL ?_; (case aP => exact rfl); (case aB => exact bl); (case aF => exact (fun k_ hk => by have h_ := blk_lt (bk HF); exact ⟨by omega, by omega⟩)); (case aO => exact (ro HO)); (case aS => exact (below_size bl)); (case aL => have h_ := HLEN.out; omega); intro v1 w1 ho hb hg hat; have HF1 := am (blk_grown (bk HF) hg (Kd.R_away HO.out (fun _ hk => hk.2))); have HC1 := am (blk_grown (bk HC) hg (Kd.R_away HO.out (fun _ hk => hk.1))); have HO1 := am ho; have HB1 := am hb; clear ho hb hg hat))
      go_roundw
      case rel => exact ⟨4, by omega, by go_num, ⟨by rw [show ccTake a0_0 a0_1 a0_2 true 4 = ccTake a0_0 a0_1 a0_2 true 3 ++ [(⟨#[109, 117, 115, 116, 45, 114, 101, 118, 97, 108, 105, 100, 97, 116, 101]⟩ : ByteArray)] from by cases a0_0 <;> cases a0_1 <;> cases a0_2 <;> rfl]; exact HO1.out⟩, HC1, HF1, HB1⟩
      case measure => simp [intOf]
     | false =>
      go_wp2
      rw [run_index_plain wr (v := .string (⟨#[109, 117, 115, 116, 45, 114, 101, 118, 97, 108, 105, 100, 97, 116, 101]⟩ : ByteArray)) Tryz.underlying101 (by kernel_rfl) HINF.out (by kernel_rfl) (by decide) rfl]
      simp only [Result.andThen]
      rw [Oper.upon_value]
      go_wp2
      go_roundw
      case rel => exact ⟨4, by omega, by go_num, ⟨by rw [show ccTake a0_0 a0_1 a0_2 false 4 = ccTake a0_0 a0_1 a0_2 false 3 from by cases a0_0 <;> cases a0_1 <;> cases a0_2 <;> rfl]; exact HO.out⟩, HC, HF, HB⟩
      case measure => simp [intOf]
   ·have hk4 : k = 4 := by omega
    subst hk4
    clear hk2 hk hlt
    have g4 := blk_cell HC.out 4
    go_wp2_with (first | (go_at_call 78; refine (joinOwn _ _ w.heap.size _ _ _ (ro HO) (by have h_ := HLEN.out; omega) ?hj).mono ?_; (case hj => have h_ := HLEN.out; refine Nat.le_trans (join_bound _ 1100 _ (ccTake_small _ _ _ _ _)) ?_; (simp only [List.length_map, data_length]; have : (⟨#[44, 32]⟩ : ByteArray).size = 2 := rfl; have : ([44, 32] : List UInt8).length = 2 := rfl; exact Nat.le_trans (Nat.mul_le_mul_right _ h_) (by omega))); rintro e w6 ⟨rfl, hb⟩; have HB6 := am (below_step bl hb); clear hb))
    go_ret
    exact ⟨rfl, HB6.out⟩

end Go.Proofs.YtjlpjbkpmmpojaaGreatDoor.All
