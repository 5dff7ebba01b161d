-- Written by a program of this session (wip/tools/hprint.py) out of the translation. Lean checks it.
import Derived.Test.YtdbgkookjpgnnaaGreatDoorAllx0
import Derived.Test.YtdbgkookjpgnnaaGreatDoorAllx2
import Derived.Test.YtdbgkookjpgnnaaGreatDoorAllx3
import Derived.Test.YtdbgkookjpgnnaaGreatDoorAllx4
import Derived.Test.YtdbgkookjpgnnaaGreatDoorAllx5
import Derived.Test.YtdbgkookjpgnnaaGreatDoorAllx24
namespace Go.Proofs.YtdbgkookjpgnnaaGreatDoor.All
open Go.RowKit Go.Proofs.YtdbgkookjpgnnaaGreatDoorW.PrintWords Go.Proofs.YtdbgkookjpgnnaaGreatDoorW.PrintLast Go.Proofs.YtdbgkookjpgnnaaGreatDoorW.PrintMore
attribute [local go_sem] max2_int min2_int max_two min_two max_three min_three max_four min_four   -- for this text's walks alone
set_option linter.unusedVariables false
set_option linter.unusedSimpArgs false

/-! ### spec_l7Draw: function 90 -/
theorem u90HB {p : Prop} (h : p := by repeat (first | (with_reducible first | exact HB.out | apply below_alloc | apply pw_below_drewN | apply below_drew1 | refine below_set ?_ (IsS148.ge HI1029.out)) | exact HB.out)) : p := h
theorem u90HI1029 {p : Prop} (h : p := by repeat (first | (with_reducible first | exact HI1029.out | apply IsS148.alloc | apply IsS148.drewN | apply IsS148.drew | apply IsS148.set_1 | apply IsS148.set_2) | exact HI1029.out)) : p := h
def spec_l7Draw.f (k : Nat) (l0 : List Int) : Option ((List (S116)) × Int × Int) := (spec_l1New.f k l0).bind fun bt1026 => ((spec_l2Draw.f k bt1026.1 bt1026.2.1 bt1026.2.2).bind fun bt1030 => ((spec_l1Once.f bt1026.1 bt1030.2.1 bt1030.2.2 2).bind fun bt1035 => (if bt1035.1 = true then ((spec_l1Pick.f bt1026.1 bt1035.2.1 bt1035.2.2 (([(⟨#[109, 97, 120, 45, 97, 103, 101, 61, 57]⟩ : ByteArray), (⟨#[109, 97, 120, 45, 97, 103, 101, 61, 51, 48]⟩ : ByteArray), (⟨#[109, 97, 120, 45, 97, 103, 101, 61, 50, 48, 44, 32, 110, 111, 45, 99, 97, 99, 104, 101]⟩ : ByteArray)] : List ByteArray))).bind fun bt1041 => ((spec_Put.f k bt1030.1 (⟨#[99, 97, 99, 104, 101, 45, 99, 111, 110, 116, 114, 111, 108]⟩ : ByteArray) bt1041.1).bind fun t1044 => ((spec_l7DrawTime.f bt1026.1 bt1041.2.1 bt1041.2.2).bind fun bt1047 => ((spec_l7DrawTime.f bt1026.1 bt1047.2.1 bt1047.2.2).bind fun bt1050 => (some (t1044, bt1047.1, bt1050.1)))))) else ((spec_l7DrawTime.f bt1026.1 bt1035.2.1 bt1035.2.2).bind fun bt1053 => ((spec_l7DrawTime.f bt1026.1 bt1053.2.1 bt1053.2.2).bind fun bt1056 => (some (bt1030.1, bt1053.1, bt1056.1)))))))
theorem spec_l7Draw.mono : ∀ a0 k, LeO (spec_l7Draw.f k a0) (spec_l7Draw.f (k + 1) a0) := by
 intro a0 k
 unfold spec_l7Draw.f
 have m0 := @spec_Put.mono
 have m1 := @spec_l1New.mono
 have m2 := @spec_l2Draw.mono
 exact mo
set_option maxHeartbeats 8000000 in
set_option maxRecDepth 100000 in
theorem spec_l7Draw.calls (k : Nat) (A0 : Option Addr) (c0 : Nat) (l0 : List Int) (r1 : List (S116)) (r2 : Int) (r3 : Int) (w : World) (hr0 : Kd.C (Kd.int .u8) w A0 l0.length l0) (hc0 : l0.length ≤ c0) (h : spec_l7Draw.f k l0 = some (r1, r2, r3)) :
  Calls Tryz.prog 90 #[.slice A0 l0.length c0] w fun e w' => ∃ v0_ : Value, e = .returned (.tuple #[v0_, .int .i64 r2, .int .i64 r3]) ∧ Kd.R k116 116 w' w.heap.size (fun _ => True) v0_ r1 ∧ Below w.heap.size w w' := by
 have HR0 := am hr0
 have HC0 := am hc0
 clear hr0 hc0
 have HB := am (Below.refl w.heap.size w)
 unfold spec_l7Draw.f at h
 have H := h
 clear h
 revert H
 refine ok3 fun t1026 t1027 t1028 A2 H => ?_
 (try dsimp only at H)
 revert H
 refine ok3 fun t1030 t1033 t1034 A3 H => ?_
 (try dsimp only at H)
 revert H
 refine ok3 fun t1035 t1036 t1037 A4 H => ?_
 (try dsimp only at H)
 by_cases c5 : t1035 = true
 rotate_left
 ·replace c5 := Bool.eq_false_iff.mpr c5
  subst c5
  rw [if_neg (show ¬ (false = true) by decide)] at H
  revert H
  refine ok3 fun t1053 t1054 t1055 A21 H => ?_
  (try dsimp only at H)
  revert H
  refine ok3 fun t1056 t1057 t1058 A22 H => ?_
  (try dsimp only at H)
  simp only [Option.some.injEq, Prod.mk.injEq] at H
  obtain ⟨rfl, rfl, rfl⟩ := H
  go_enter Tryz.func90, Tryz.ntmps90
  go_wp2_with (first | (refine gl 9 Tryz.func71 #[.slice A0 l0.length c0] ?_; (with_reducible refine (spec_l1New.calls k _ _ l0 t1026 t1027 t1028 w _ ?side1 ?side2 ?side3 A2.out).mono ?_); (case side1 => exact u90HB); (case side2 => exact HR0.out); (case side3 => exact HC0.out); rintro e w23 ⟨g1029, rfl, hi, hb, hb2⟩; refine ⟨_, rfl, ?_⟩; replace HB := am (hb); have HI1029 := am (hi); clear hb hb2 hi) | (refine gl 11 Tryz.func109 #[.pointer (some ⟨g1029, 0, none⟩)] ?_; (with_reducible refine (spec_l2Draw.calls k g1029 t1026 t1027 t1028 t1030 t1033 t1034 w _ ?side1 ?side2 A3.out).mono ?_); (case side1 => exact u90HI1029); (case side2 => exact u90HB); rintro e w24 ⟨v1031, rfl, ho0, hi, hb, hk⟩; refine ⟨_, rfl, ?_⟩; have HO1032 := am (Kd.R_lower ho0 (below_size u90HB)); replace HB := am (hb); replace HI1029 := am (hi); clear hb hk hi ho0) | (refine gl 13 Tryz.func153 #[.pointer (some ⟨g1029, 0, none⟩), .int .i64 2] ?_; (with_reducible refine (spec_l1Once.calls g1029 t1026 t1033 t1034 2 false t1036 t1037 w _ ?side1 ?side2 A4.out).mono ?_); (case side1 => exact u90HI1029); (case side2 => exact u90HB); rintro e w25 ⟨rfl, hi, hb, hk⟩; refine ⟨_, rfl, ?_⟩; replace HO1032 := am (Kd.R_mono (Kd.R_keep (IsS148.apart (show IsS148 w _ g1029 t1026 t1033 t1034 from u90HI1029) (ro HO1032) (by decide)) hk (fun _ h => h.2)) (fun _ h => h.1)); replace HB := am (hb); replace HI1029 := am (hi); clear hb hk hi) | (refine gl 20 Tryz.func95 #[.pointer (some ⟨g1029, 0, none⟩)] ?_; (with_reducible refine (spec_l7DrawTime.calls g1029 t1026 t1036 t1037 t1053 t1054 t1055 w _ ?side1 ?side2 A21.out).mono ?_); (case side1 => exact u90HI1029); (case side2 => exact u90HB); rintro e w26 ⟨rfl, hi, hb, hk⟩; refine ⟨_, rfl, ?_⟩; replace HO1032 := am (Kd.R_mono (Kd.R_keep (IsS148.apart (show IsS148 w _ g1029 t1026 t1036 t1037 from u90HI1029) (ro HO1032) (by decide)) hk (fun _ h => h.2)) (fun _ h => h.1)); replace HB := am (hb); replace HI1029 := am (hi); clear hb hk hi) | (refine gl 24 Tryz.func95 #[.pointer (some ⟨g1029, 0, none⟩)] ?_; (with_reducible refine (spec_l7DrawTime.calls g1029 t1026 t1054 t1055 t1056 t1057 t1058 w _ ?side1 ?side2 A22.out).mono ?_); (case side1 => exact u90HI1029); (case side2 => exact u90HB); rintro e w27 ⟨rfl, hi, hb, hk⟩; refine ⟨_, rfl, ?_⟩; replace HO1032 := am (Kd.R_mono (Kd.R_keep (IsS148.apart (show IsS148 w _ g1029 t1026 t1054 t1055 from u90HI1029) (ro HO1032) (by decide)) hk (fun _ h => h.2)) (fun _ h => h.1)); replace HB := am (hb); replace HI1029 := am (hi); clear hb hk hi))
  go_ret3
  exact ⟨_, rf, by (with_reducible repeat (first | apply Kd.R_alloc | apply Kd.R_drewN | apply Kd.R_drew)); exact HO1032.out, u90HB⟩
 subst c5
 rw [if_pos rfl] at H
 obtain ⟨y1038, hy1038⟩ : ∃ y_ : List ByteArray, y_ = (([(⟨#[109, 97, 120, 45, 97, 103, 101, 61, 57]⟩ : ByteArray), (⟨#[109, 97, 120, 45, 97, 103, 101, 61, 51, 48]⟩ : ByteArray), (⟨#[109, 97, 120, 45, 97, 103, 101, 61, 50, 48, 44, 32, 110, 111, 45, 99, 97, 99, 104, 101]⟩ : ByteArray)] : List ByteArray)) := ⟨_, rfl⟩
 replace H : ((spec_l1Pick.f t1026 t1036 t1037 y1038).bind fun bt1041 => ((spec_Put.f k t1030 (⟨#[99, 97, 99, 104, 101, 45, 99, 111, 110, 116, 114, 111, 108]⟩ : ByteArray) bt1041.1).bind fun t1044 => ((spec_l7DrawTime.f t1026 bt1041.2.1 bt1041.2.2).bind fun bt1047 => ((spec_l7DrawTime.f t1026 bt1047.2.1 bt1047.2.2).bind fun bt1050 => (some (t1044, bt1047.1, bt1050.1)))))) = some (r1, r2, r3) := by first | (rw [hy1038]; with_reducible exact H) | (have H2_ := (Option.bind_some _ _).symm.trans H; rw [hy1038]; with_reducible exact H2_) | (have H2_ := (Option.bind_some _ _).symm.trans H; with_reducible exact H2_) | with_reducible exact H | (rw [hy1038]; exact H) | exact H
 have Ny1038 := am hy1038
 clear hy1038
 revert H
 refine ok3 fun t1041 t1042 t1043 A6 H => ?_
 (try dsimp only at H)
 revert H
 refine ok1 fun t1044 A7 H => ?_
 revert H
 refine ok3 fun t1047 t1048 t1049 A8 H => ?_
 (try dsimp only at H)
 revert H
 refine ok3 fun t1050 t1051 t1052 A9 H => ?_
 (try dsimp only at H)
 simp only [Option.some.injEq, Prod.mk.injEq] at H
 obtain ⟨rfl, rfl, rfl⟩ := H
 go_enter Tryz.func90, Tryz.ntmps90
 go_wp2_with (first | (refine gl 9 Tryz.func71 #[.slice A0 l0.length c0] ?_; (with_reducible refine (spec_l1New.calls k _ _ l0 t1026 t1027 t1028 w _ ?side1 ?side2 ?side3 A2.out).mono ?_); (case side1 => exact u90HB); (case side2 => exact HR0.out); (case side3 => exact HC0.out); rintro e w10 ⟨g1029, rfl, hi, hb, hb2⟩; refine ⟨_, rfl, ?_⟩; replace HB := am (hb); have HI1029 := am (hi); clear hb hb2 hi) | (refine gl 11 Tryz.func109 #[.pointer (some ⟨g1029, 0, none⟩)] ?_; (with_reducible refine (spec_l2Draw.calls k g1029 t1026 t1027 t1028 t1030 t1033 t1034 w _ ?side1 ?side2 A3.out).mono ?_); (case side1 => exact u90HI1029); (case side2 => exact u90HB); rintro e w11 ⟨v1031, rfl, ho0, hi, hb, hk⟩; refine ⟨_, rfl, ?_⟩; have HO1032 := am (Kd.R_lower ho0 (below_size u90HB)); replace HB := am (hb); replace HI1029 := am (hi); clear hb hk hi ho0) | (refine gl 13 Tryz.func153 #[.pointer (some ⟨g1029, 0, none⟩), .int .i64 2] ?_; (with_reducible refine (spec_l1Once.calls g1029 t1026 t1033 t1034 2 true t1036 t1037 w _ ?side1 ?side2 A4.out).mono ?_); (case side1 => exact u90HI1029); (case side2 => exact u90HB); rintro e w12 ⟨rfl, hi, hb, hk⟩; refine ⟨_, rfl, ?_⟩; replace HO1032 := am (Kd.R_mono (Kd.R_keep (IsS148.apart (show IsS148 w _ g1029 t1026 t1033 t1034 from u90HI1029) (ro HO1032) (by decide)) hk (fun _ h => h.2)) (fun _ h => h.1)); replace HB := am (hb); replace HI1029 := am (hi); clear hb hk hi) | ((with_reducible refine gate_dst (N := 16) rfl ?_); refine Kd.R_lit Kd.string _ 9 ?hg (N := 16) ?hd (xs := ([(⟨#[109, 97, 120, 45, 97, 103, 101, 61, 57]⟩ : ByteArray), (⟨#[109, 97, 120, 45, 97, 103, 101, 61, 51, 48]⟩ : ByteArray), (⟨#[109, 97, 120, 45, 97, 103, 101, 61, 50, 48, 44, 32, 110, 111, 45, 99, 97, 99, 104, 101]⟩ : ByteArray)] : List ByteArray)) (inner := [.string (⟨#[109, 97, 120, 45, 97, 103, 101, 61, 57]⟩ : ByteArray), .string (⟨#[109, 97, 120, 45, 97, 103, 101, 61, 51, 48]⟩ : ByteArray), .string (⟨#[109, 97, 120, 45, 97, 103, 101, 61, 50, 48, 44, 32, 110, 111, 45, 99, 97, 99, 104, 101]⟩ : ByteArray)]) (ok := fun _ => True) (okp := fun _ => True) ?hr ?hp (fun _ hk => hk) trivial (Below.refl _ _) (Nat.le_refl _) (by simp) ?_; (case hd => rfl); (case hg => rfl); (case hr => first | (go_simp; done) | (go_simp; rfl)); (case hp => exact rp); intro v1039 w13 ho14 hb hg_ hnew_; clear hg_ hnew_; (first | rw [← Ny1038.out] at ho14 | (simp only [Int.reduceToNat] at ho14; rw [← Ny1038.out] at ho14)); replace HO1032 := kr HO1032 hb; have HO1040 := am (Kd.R_lower ho14 (below_size u90HB)); replace HB := am (below_step u90HB hb); replace HI1029 := am (IsS148.below u90HI1029 hb); clear hb ho14; obtain ⟨Ao15, co15, eo15⟩ := Kd.R_slice HO1040.out; subst eo15) | (refine gl 17 Tryz.func108 #[.pointer (some ⟨g1029, 0, none⟩), .slice Ao15 y1038.length co15] ?_; (with_reducible refine (spec_l1Pick.calls g1029 t1026 t1036 t1037 _ _ y1038 t1041 t1042 t1043 w _ ?side1 ?side2 ?side3 ?side4 ?side5 A6.out).mono ?_); (case side1 => exact u90HI1029); (case side2 => exact u90HB); (case side3 => exact rc HO1040); (case side4 => exact (Kd.R_reads' HO1040.out).2.1); (case side5 => exact far_slice (IsS148.own_ne HI1029.out HO1040.out (by decide))); rintro e w16 ⟨rfl, hi, hb, hk⟩; refine ⟨_, rfl, ?_⟩; replace HO1032 := am (Kd.R_mono (Kd.R_keep (IsS148.apart (show IsS148 w _ g1029 t1026 t1036 t1037 from u90HI1029) (ro HO1032) (by decide)) hk (fun _ h => h.2)) (fun _ h => h.1)); replace HO1040 := am (Kd.R_mono (Kd.R_keep (IsS148.apart (show IsS148 w _ g1029 t1026 t1036 t1037 from u90HI1029) (ro HO1040) (by decide)) hk (fun _ h => h.2)) (fun _ h => h.1)); replace HB := am (hb); replace HI1029 := am (hi); clear hb hk hi; obtain ⟨Ao17, co17, eo17⟩ := Kd.R_slice HO1032.out; subst eo17) | (refine gl 18 Tryz.func126 #[.slice Ao17 t1030.length co17, .string (⟨#[99, 97, 99, 104, 101, 45, 99, 111, 110, 116, 114, 111, 108]⟩ : ByteArray), .string t1041] ?_; (with_reducible refine (spec_Put.calls k _ _ t1030 (⟨#[99, 97, 99, 104, 101, 45, 99, 111, 110, 116, 114, 111, 108]⟩ : ByteArray) t1041 t1044 _ ?side1 ?side2 A7.out).mono ?_); (case side1 => exact rc HO1032); (case side2 => exact (Kd.R_reads' HO1032.out).2.1); rintro e w18 ⟨v1045, rfl, ho0, hb⟩; refine ⟨_, rfl, ?_⟩; replace HO1040 := kr HO1040 hb; have HO1046 := am (Kd.R_lower (Kd.R_new' ho0 (Kd.R_lt (ro HO1032))) (below_size u90HB)); replace HO1032 := am (Kd.R_elder' (ro HO1032) (Kd.R_base ho0) hb); replace HB := am (below_step u90HB hb); replace HI1029 := am (IsS148.below u90HI1029 hb); clear hb ho0) | (refine gl 20 Tryz.func95 #[.pointer (some ⟨g1029, 0, none⟩)] ?_; (with_reducible refine (spec_l7DrawTime.calls g1029 t1026 t1042 t1043 t1047 t1048 t1049 w _ ?side1 ?side2 A8.out).mono ?_); (case side1 => exact u90HI1029); (case side2 => exact u90HB); rintro e w19 ⟨rfl, hi, hb, hk⟩; refine ⟨_, rfl, ?_⟩; replace HO1032 := am (Kd.R_mono (Kd.R_keep (IsS148.apart (show IsS148 w _ g1029 t1026 t1042 t1043 from u90HI1029) (ro HO1032) (by decide)) hk (fun _ h => h.2)) (fun _ h => h.1)); replace HO1040 := am (Kd.R_mono (Kd.R_keep (IsS148.apart (show IsS148 w _ g1029 t1026 t1042 t1043 from u90HI1029) (ro HO1040) (by decide)) hk (fun _ h => h.2)) (fun _ h => h.1)); replace HO1046 := am (Kd.R_mono (Kd.R_keep (IsS148.apart (show IsS148 w _ g1029 t1026 t1042 t1043 from u90HI1029) (ro HO1046) (by decide)) hk (fun _ h => h.2)) (fun _ h => h.1)); replace HB := am (hb); replace HI1029 := am (hi); clear hb hk hi) | (refine gl 24 Tryz.func95 #[.pointer (some ⟨g1029, 0, none⟩)] ?_; (with_reducible refine (spec_l7DrawTime.calls g1029 t1026 t1048 t1049 t1050 t1051 t1052 w _ ?side1 ?side2 A9.out).mono ?_); (case side1 => exact u90HI1029); (case side2 => exact u90HB); rintro e w20 ⟨rfl, hi, hb, hk⟩; refine ⟨_, rfl, ?_⟩; replace HO1032 := am (Kd.R_mono (Kd.R_keep (IsS148.apart (show IsS148 w _ g1029 t1026 t1048 t1049 from u90HI1029) (ro HO1032) (by decide)) hk (fun _ h => h.2)) (fun _ h => h.1)); replace HO1040 := am (Kd.R_mono (Kd.R_keep (IsS148.apart (show IsS148 w _ g1029 t1026 t1048 t1049 from u90HI1029) (ro HO1040) (by decide)) hk (fun _ h => h.2)) (fun _ h => h.1)); replace HO1046 := am (Kd.R_mono (Kd.R_keep (IsS148.apart (show IsS148 w _ g1029 t1026 t1048 t1049 from u90HI1029) (ro HO1046) (by decide)) hk (fun _ h => h.2)) (fun _ h => h.1)); replace HB := am (hb); replace HI1029 := am (hi); clear hb hk hi))
 go_ret3
 exact ⟨_, rf, by (with_reducible repeat (first | apply Kd.R_alloc | apply Kd.R_drewN | apply Kd.R_drew)); exact Kd.R_mono HO1046.out (fun _ hk => trivial), u90HB⟩

/-! ### spec_DrawFresh: function 26 -/
def spec_DrawFresh.f (k : Nat) (l0 : List Int) : Option ((List (S116)) × Int × Int) := (spec_l7Draw.f k l0).bind fun bt1059 => (some (bt1059.1, bt1059.2.1, bt1059.2.2))
theorem spec_DrawFresh.mono : ∀ a0 k, LeO (spec_DrawFresh.f k a0) (spec_DrawFresh.f (k + 1) a0) := by
 intro a0 k
 unfold spec_DrawFresh.f
 have m0 := @spec_l7Draw.mono
 exact mo
set_option maxHeartbeats 8000000 in
set_option maxRecDepth 100000 in
theorem spec_DrawFresh.calls (k : Nat) (A0 : Option Addr) (c0 : Nat) (l0 : List Int) (r1 : List (S116)) (r2 : Int) (r3 : Int) (w : World) (hr0 : Kd.C (Kd.int .u8) w A0 l0.length l0) (hc0 : l0.length ≤ c0) (h : spec_DrawFresh.f k l0 = some (r1, r2, r3)) :
  Calls Tryz.prog 26 #[.slice A0 l0.length c0] w fun e w' => ∃ v0_ : Value, e = .returned (.tuple #[v0_, .int .i64 r2, .int .i64 r3]) ∧ Kd.R k116 116 w' w.heap.size (fun _ => True) v0_ r1 ∧ Below w.heap.size w w' := by
 have HR0 := am hr0
 have HC0 := am hc0
 clear hr0 hc0
 have HB := am (Below.refl w.heap.size w)
 unfold spec_DrawFresh.f at h
 have H := h
 clear h
 revert H
 refine ok3 fun t1059 t1060 t1061 A2 H => ?_
 (try dsimp only at H)
 simp only [Option.some.injEq, Prod.mk.injEq] at H
 obtain ⟨rfl, rfl, rfl⟩ := H
 go_enter Tryz.func26, Tryz.ntmps26
 go_wp2_with (first | (refine gl 10 Tryz.func90 #[.slice A0 l0.length c0] ?_; (with_reducible refine (spec_l7Draw.calls k _ _ l0 t1059 t1060 t1061 _ ?side1 ?side2 A2.out).mono ?_); (case side1 => exact cc HR0); (case side2 => exact HC0.out); rintro e w3 ⟨v1062, rfl, ho0, hb⟩; refine ⟨_, rfl, ?_⟩; have HO1063 := am (Kd.R_lower ho0 (below_size bl)); replace HB := am (below_step bl hb); clear hb ho0))
 go_ret3
 exact ⟨_, rf, by (with_reducible repeat (first | apply Kd.R_alloc | apply Kd.R_drewN | apply Kd.R_drew)); exact HO1063.out, bl⟩

/-! ### spec_DrawPlus: function 31 -/
theorem u31HB {p : Prop} (h : p := by repeat (first | (with_reducible first | exact HB.out | apply below_alloc | apply pw_below_drewN | apply below_drew1 | refine below_set ?_ (IsS148.ge HI1067.out)) | exact HB.out)) : p := h
theorem u31HI1067 {p : Prop} (h : p := by repeat (first | (with_reducible first | exact HI1067.out | apply IsS148.alloc | apply IsS148.drewN | apply IsS148.drew | apply IsS148.set_1 | apply IsS148.set_2) | exact HI1067.out)) : p := h
def spec_DrawPlus.f (k : Nat) (l0 : List Int) : Option (Int × Int) := (spec_l1New.f k l0).bind fun bt1064 => ((spec_l7DrawTime.f bt1064.1 bt1064.2.1 bt1064.2.2).bind fun bt1068 => ((spec_l7DrawTime.f bt1064.1 bt1068.2.1 bt1068.2.2).bind fun bt1071 => (some (bt1068.1, bt1071.1))))
theorem spec_DrawPlus.mono : ∀ a0 k, LeO (spec_DrawPlus.f k a0) (spec_DrawPlus.f (k + 1) a0) := by
 intro a0 k
 unfold spec_DrawPlus.f
 have m0 := @spec_l1New.mono
 exact mo
set_option maxHeartbeats 8000000 in
set_option maxRecDepth 100000 in
theorem spec_DrawPlus.calls (k : Nat) (A0 : Option Addr) (c0 : Nat) (l0 : List Int) (r1 : Int) (r2 : Int) (w : World) (hr0 : Kd.C (Kd.int .u8) w A0 l0.length l0) (hc0 : l0.length ≤ c0) (h : spec_DrawPlus.f k l0 = some (r1, r2)) :
  Calls Tryz.prog 31 #[.slice A0 l0.length c0] w fun e w' => e = .returned (.tuple #[.int .i64 r1, .int .i64 r2]) ∧ Below w.heap.size w w' := by
 have HR0 := am hr0
 have HC0 := am hc0
 clear hr0 hc0
 have HB := am (Below.refl w.heap.size w)
 unfold spec_DrawPlus.f at h
 have H := h
 clear h
 revert H
 refine ok3 fun t1064 t1065 t1066 A2 H => ?_
 (try dsimp only at H)
 revert H
 refine ok3 fun t1068 t1069 t1070 A3 H => ?_
 (try dsimp only at H)
 revert H
 refine ok3 fun t1071 t1072 t1073 A4 H => ?_
 (try dsimp only at H)
 simp only [Option.some.injEq, Prod.mk.injEq] at H
 obtain ⟨rfl, rfl⟩ := H
 go_enter Tryz.func31, Tryz.ntmps31
 go_wp2_with (first | (refine gl 7 Tryz.func71 #[.slice A0 l0.length c0] ?_; (with_reducible refine (spec_l1New.calls k _ _ l0 t1064 t1065 t1066 w _ ?side1 ?side2 ?side3 A2.out).mono ?_); (case side1 => exact u31HB); (case side2 => exact HR0.out); (case side3 => exact HC0.out); rintro e w5 ⟨g1067, rfl, hi, hb, hb2⟩; refine ⟨_, rfl, ?_⟩; replace HB := am (hb); have HI1067 := am (hi); clear hb hb2 hi) | (refine gl 9 Tryz.func95 #[.pointer (some ⟨g1067, 0, none⟩)] ?_; (with_reducible refine (spec_l7DrawTime.calls g1067 t1064 t1065 t1066 t1068 t1069 t1070 w _ ?side1 ?side2 A3.out).mono ?_); (case side1 => exact u31HI1067); (case side2 => exact u31HB); rintro e w6 ⟨rfl, hi, hb, hk⟩; refine ⟨_, rfl, ?_⟩; replace HB := am (hb); replace HI1067 := am (hi); clear hb hk hi) | (refine gl 12 Tryz.func95 #[.pointer (some ⟨g1067, 0, none⟩)] ?_; (with_reducible refine (spec_l7DrawTime.calls g1067 t1064 t1069 t1070 t1071 t1072 t1073 w _ ?side1 ?side2 A4.out).mono ?_); (case side1 => exact u31HI1067); (case side2 => exact u31HB); rintro e w7 ⟨rfl, hi, hb, hk⟩; refine ⟨_, rfl, ?_⟩; replace HB := am (hb); replace HI1067 := am (hi); clear hb hk hi))
 go_ret2
 exact ⟨rf, u31HB⟩

/-! ### laws_FnAges: function 5 -/
theorem u5HB {p : Prop} (h : p := by repeat (first | (with_reducible first | exact HB.out | apply below_alloc | apply pw_below_drewN | apply below_drew1) | exact HB.out)) : p := h
mutual
def laws_FnAges.j0 : Nat → List Int → List (S116) → Int → Int → Bool → Int → Bool → Option (Bool)
 | 0, _, _, _, _, _, _, _ => none
 | k + 1, x0, x3, x4, x5, x6, x7, x55 => if x55 = true then (some false) else ((spec_DrawPlus.f k x0).bind fun bt1086 => ((impl_Plus.f bt1086.1 bt1086.2).bind fun t1088 => ((spec_Plus.f bt1086.1 bt1086.2).bind fun t1089 => (if t1088 = t1089 then ((impl_Plus.f bt1086.2 bt1086.1).bind fun t1090 => (if t1088 = t1090 then (if t1088 < 0 then (laws_FnAges.j1 k x3 x4 x5 x6 x7 true) else (laws_FnAges.j1 k x3 x4 x5 x6 x7 (decide (t1088 > 1000000)))) else (laws_FnAges.j1 k x3 x4 x5 x6 x7 true))) else (laws_FnAges.j1 k x3 x4 x5 x6 x7 true)))))
def laws_FnAges.j1 : Nat → List (S116) → Int → Int → Bool → Int → Bool → Option (Bool)
 | 0, _, _, _, _, _, _ => none
 | k + 1, x3, x4, x5, x6, x7, x83 => if x83 = true then (some false) else (if x5 < (-1000000000) then (laws_FnAges.j2 k x3 x4 x5 x6 x7 true) else (laws_FnAges.j2 k x3 x4 x5 x6 x7 (decide (x5 > 1000000000))))
def laws_FnAges.j2 : Nat → List (S116) → Int → Int → Bool → Int → Bool → Option (Bool)
 | 0, _, _, _, _, _, _ => none
 | k + 1, x3, x4, x5, x6, x7, x89 => if x89 = true then (some true) else ((impl_AgeAt.f x3 x4 (wrap64 (x5 - 1))).bind fun t1091 => (if t1091 ≤ x7 then (if x6 = true then ((impl_Fresh.f k x3 x4 (wrap64 (x5 - 1))).bind fun t1092 => (if t1092 = true then ((impl_Life.f k x3).bind fun t1093 => (some (decide (x7 < t1093)))) else (some false))) else (some true)) else (some false)))
end
def laws_FnAges.f (k : Nat) (l0 : List Int) : Option (Bool) := (laws_big.f l0).bind fun t1074 => (if t1074 = true then (some true) else ((spec_DrawFresh.f k l0).bind fun bt1075 => ((impl_Fresh.f k bt1075.1 bt1075.2.1 bt1075.2.2).bind fun t1080 => ((impl_AgeAt.f bt1075.1 bt1075.2.1 bt1075.2.2).bind fun t1081 => ((spec_Fresh.f k bt1075.1 bt1075.2.1 bt1075.2.2).bind fun t1082 => (if (t1080 != t1082) = true then (laws_FnAges.j0 k l0 bt1075.1 bt1075.2.1 bt1075.2.2 t1080 t1081 true) else ((spec_AgeAt.f k bt1075.1 bt1075.2.1 bt1075.2.2).bind fun t1083 => (if t1081 = t1083 then (if t1081 < 0 then (laws_FnAges.j0 k l0 bt1075.1 bt1075.2.1 bt1075.2.2 t1080 t1081 true) else (if t1081 > 1000000 then (laws_FnAges.j0 k l0 bt1075.1 bt1075.2.1 bt1075.2.2 t1080 t1081 true) else ((impl_Life.f k bt1075.1).bind fun t1084 => ((spec_Life.f k bt1075.1).bind fun t1085 => (laws_FnAges.j0 k l0 bt1075.1 bt1075.2.1 bt1075.2.2 t1080 t1081 (t1084 != t1085)))))) else (laws_FnAges.j0 k l0 bt1075.1 bt1075.2.1 bt1075.2.2 t1080 t1081 true)))))))))
theorem laws_FnAges.mono_l : ∀ k, (∀ y0 y1 y2 y3 y4 y5 y6, LeO (laws_FnAges.j0 k y0 y1 y2 y3 y4 y5 y6) (laws_FnAges.j0 (k + 1) y0 y1 y2 y3 y4 y5 y6)) ∧ (∀ y0 y1 y2 y3 y4 y5, LeO (laws_FnAges.j1 k y0 y1 y2 y3 y4 y5) (laws_FnAges.j1 (k + 1) y0 y1 y2 y3 y4 y5)) ∧ (∀ y0 y1 y2 y3 y4 y5, LeO (laws_FnAges.j2 k y0 y1 y2 y3 y4 y5) (laws_FnAges.j2 (k + 1) y0 y1 y2 y3 y4 y5))
 | 0 => ⟨fun _ _ _ _ _ _ _ r h => by simp [laws_FnAges.j0] at h, fun _ _ _ _ _ _ r h => by simp [laws_FnAges.j1] at h, fun _ _ _ _ _ _ r h => by simp [laws_FnAges.j2] at h⟩
 | k + 1 => by
  obtain ⟨ih0, ih1, ih2⟩ := laws_FnAges.mono_l k
  refine ⟨?_, ?_, ?_⟩
  ·intro y0 y1 y2 y3 y4 y5 y6
   unfold laws_FnAges.j0
   have m0 := @impl_Fresh.mono
   have m1 := @impl_Life.mono
   have m2 := @spec_AgeAt.mono
   have m3 := @spec_DrawFresh.mono
   have m4 := @spec_DrawPlus.mono
   have m5 := @spec_Fresh.mono
   have m6 := @spec_Life.mono
   exact mo
  ·intro y0 y1 y2 y3 y4 y5
   unfold laws_FnAges.j1
   have m0 := @impl_Fresh.mono
   have m1 := @impl_Life.mono
   have m2 := @spec_AgeAt.mono
   have m3 := @spec_DrawFresh.mono
   have m4 := @spec_DrawPlus.mono
   have m5 := @spec_Fresh.mono
   have m6 := @spec_Life.mono
   exact mo
  ·intro y0 y1 y2 y3 y4 y5
   unfold laws_FnAges.j2
   have m0 := @impl_Fresh.mono
   have m1 := @impl_Life.mono
   have m2 := @spec_AgeAt.mono
   have m3 := @spec_DrawFresh.mono
   have m4 := @spec_DrawPlus.mono
   have m5 := @spec_Fresh.mono
   have m6 := @spec_Life.mono
   exact mo
theorem laws_FnAges.mono : ∀ a0 k, LeO (laws_FnAges.f k a0) (laws_FnAges.f (k + 1) a0) := by
 intro a0 k
 obtain ⟨ih0, ih1, ih2⟩ := laws_FnAges.mono_l k
 unfold laws_FnAges.f
 have m0 := @impl_Fresh.mono
 have m1 := @impl_Life.mono
 have m2 := @spec_AgeAt.mono
 have m3 := @spec_DrawFresh.mono
 have m4 := @spec_DrawPlus.mono
 have m5 := @spec_Fresh.mono
 have m6 := @spec_Life.mono
 exact mo
set_option maxHeartbeats 8000000 in
set_option maxRecDepth 100000 in
theorem laws_FnAges.calls (k : Nat) (A0 : Option Addr) (c0 : Nat) (l0 : List Int) (r : Bool) (w : World) (hGE : GLOBE w) (hGM : GLOBM w) (hGT : GLOBT w) (hr0 : Kd.C (Kd.int .u8) w A0 l0.length l0) (hc0 : l0.length ≤ c0) (ht_ : r = true) (h : laws_FnAges.f k l0 = some r) :
  Calls Tryz.prog 5 #[.slice A0 l0.length c0] w fun e w' => e = .returned (.bool r) ∧ Below w.heap.size w w' := by
 have HR0 := am hr0
 have HC0 := am hc0
 clear hr0 hc0
 have HGE := am hGE
 clear hGE
 have HGM := am hGM
 clear hGM
 have HGT := am hGT
 clear hGT
 have HB := am (Below.refl w.heap.size w)
 unfold laws_FnAges.f at h
 have H := h
 clear h
 revert H
 refine ok1 fun t1074 A2 H => ?_
 by_cases c3 : t1074 = true
 ·subst c3
  rw [if_pos rfl] at H
  obtain rfl := Option.some.inj H
  go_enter Tryz.func5, Tryz.ntmps5
  go_wp2_with (first | (refine gl 12 Tryz.func12 #[.slice A0 l0.length c0] ?_; (with_reducible refine (laws_big.calls _ _ l0 true _ ?side1 ?side2 A2.out).mono ?_); (case side1 => exact cc HR0); (case side2 => exact HC0.out); rintro e w' ⟨rfl, ⟨nd, rfl⟩⟩; refine ⟨_, rfl, ?_⟩))
  go_ret
  exact ⟨rf, bl⟩
 replace c3 := Bool.eq_false_iff.mpr c3
 subst c3
 rw [if_neg (show ¬ (false = true) by decide)] at H
 revert H
 refine ok3 fun t1075 t1076 t1077 A4 H => ?_
 (try dsimp only at H)
 revert H
 refine ok1 fun t1080 A5 H => ?_
 revert H
 refine ok1 fun t1081 A6 H => ?_
 have HC7 := am H
 clear H
 go_enter Tryz.func5, Tryz.ntmps5
 go_upto_region 6 with (first | (refine gl 12 Tryz.func12 #[.slice A0 l0.length c0] ?_; (with_reducible refine (laws_big.calls _ _ l0 false _ ?side1 ?side2 A2.out).mono ?_); (case side1 => exact cc HR0); (case side2 => exact HC0.out); rintro e w' ⟨rfl, ⟨nd, rfl⟩⟩; refine ⟨_, rfl, ?_⟩) | (refine gl 15 Tryz.func26 #[.slice A0 l0.length c0] ?_; (with_reducible refine (spec_DrawFresh.calls k _ _ l0 t1075 t1076 t1077 _ ?side1 ?side2 A4.out).mono ?_); (case side1 => exact cc HR0); (case side2 => exact HC0.out); rintro e w8 ⟨v1078, rfl, ho0, hb⟩; refine ⟨_, rfl, ?_⟩; have HO1079 := am (Kd.R_lower ho0 (below_size bl)); replace HB := am (below_step bl hb); clear hb ho0; obtain ⟨Ao9, co9, eo9⟩ := Kd.R_slice HO1079.out; subst eo9) | (refine gl 22 Tryz.func24 #[.slice Ao9 t1075.length co9, .int .i64 t1076, .int .i64 t1077] ?_; (with_reducible refine (impl_Fresh.calls k _ _ t1075 t1076 t1077 t1080 _ ?side1 ?side2 ?side3 ?side4 ?side5 A5.out).mono ?_); (case side1 => exact GLOBE.below HGE.out bl); (case side2 => exact GLOBM.below HGM.out bl); (case side3 => exact GLOBT.below HGT.out bl); (case side4 => exact rc HO1079); (case side5 => exact (Kd.R_reads' HO1079.out).2.1); rintro e w10 ⟨rfl, hb⟩; refine ⟨_, rfl, ?_⟩; replace HO1079 := kr HO1079 hb; replace HB := am (below_step bl hb); clear hb) | (refine gl 26 Tryz.func27 #[.slice Ao9 t1075.length co9, .int .i64 t1076, .int .i64 t1077] ?_; (with_reducible refine (impl_AgeAt.calls _ _ t1075 t1076 t1077 t1081 _ ?side1 ?side2 ?side3 ?side4 A6.out).mono ?_); (case side1 => exact GLOBE.below HGE.out bl); (case side2 => exact GLOBT.below HGT.out bl); (case side3 => exact rc HO1079); (case side4 => exact (Kd.R_reads' HO1079.out).2.1); rintro e w11 ⟨rfl, hb⟩; refine ⟨_, rfl, ?_⟩; replace HO1079 := kr HO1079 hb; replace HB := am (below_step bl hb); clear hb))
 (try simp only [Act.put, List.setIfInBounds_toArray, List.set_cons_zero, List.set_cons_succ])
 go_cut [55] (fun v55 wc => ∃ (kq : Nat) (x55_6 : Bool), v55 = .bool x55_6 ∧ Aside0 (laws_FnAges.j0 kq l0 t1075 t1076 t1077 t1080 t1081 x55_6 = some r) ∧ Aside0 (kq ≤ k) ∧ Aside0 (Kd.R k116 116 wc w.heap.size (fun _ => True) (.slice Ao9 t1075.length co9) t1075) ∧ Aside0 (Below w.heap.size w wc))
 case first =>
  have H := HC7.out
  clear HC7
  revert H
  refine ok1 fun t1082 A12 H => ?_
  by_cases c13 : (t1080 != t1082) = true
  ·rw [if_pos c13] at H
   have c13b0 : (t1080 != t1082) = true := c13
   (try (have c13b1 : decide (t1080 = t1082) = false := by simpa using c13))
   (try (have c13b2 : (t1080 == t1082) = false := by simpa using c13))
   (try (have c13b3 : ¬ (t1080 = t1082) := by simpa using c13))
   clear c13
   (first | rw [c13b0] | (simp only [i64_w, i32_w]; rw [c13b0]) | skip)
   cases k with
   | zero => exact absurd H (by simp [laws_FnAges.j0])
   | succ k_ => simp only [laws_FnAges.j0, if_true] at H; exact absurd (Option.some.inj H) (by rw [ht_]; decide)
  rw [if_neg c13] at H
  have c13b0 : (t1080 != t1082) = false := by simpa using c13
  (try (have c13b1 : decide (t1080 = t1082) = true := by simpa using c13))
  (try (have c13b2 : (t1080 == t1082) = true := by simpa using c13))
  clear c13
  (first | rw [c13b0] | (simp only [i64_w, i32_w]; rw [c13b0]) | skip)
  revert H
  refine ok1 fun t1083 A14 H => ?_
  by_cases c15 : t1081 = t1083
  rotate_left
  ·rw [if_neg c15] at H
   have c15b0 : (t1081 == t1083) = false := beq_eq_false_iff_ne.mpr c15
   have c15b1 : (t1081 != t1083) = true := bne_iff_ne.mpr c15
   cases k with
   | zero => exact absurd H (by simp [laws_FnAges.j0])
   | succ k_ => simp only [laws_FnAges.j0, if_true] at H; exact absurd (Option.some.inj H) (by rw [ht_]; decide)
  rw [if_pos c15] at H
  have c15b0 : (t1081 == t1083) = true := beq_iff_eq.mpr c15
  have c15b1 : (t1081 != t1083) = false := bne_eq_false_iff_eq.mpr c15
  clear c15
  by_cases c16 : t1081 < 0
  ·rw [if_pos c16] at H
   have c16b0 := decide_eq_true c16
   clear c16
   cases k with
   | zero => exact absurd H (by simp [laws_FnAges.j0])
   | succ k_ => simp only [laws_FnAges.j0, if_true] at H; exact absurd (Option.some.inj H) (by rw [ht_]; decide)
  rw [if_neg c16] at H
  have c16b0 := decide_eq_false c16
  clear c16
  by_cases c17 : t1081 > 1000000
  ·rw [if_pos c17] at H
   have c17b0 := decide_eq_true c17
   clear c17
   cases k with
   | zero => exact absurd H (by simp [laws_FnAges.j0])
   | succ k_ => simp only [laws_FnAges.j0, if_true] at H; exact absurd (Option.some.inj H) (by rw [ht_]; decide)
  rw [if_neg c17] at H
  have c17b0 := decide_eq_false c17
  clear c17
  revert H
  refine ok1 fun t1084 A18 H => ?_
  revert H
  refine ok1 fun t1085 A19 H => ?_
  have H' := am H
  clear H
  go_wp2_with (first | (refine gl 31 Tryz.func22 #[.slice Ao9 t1075.length co9, .int .i64 t1076, .int .i64 t1077] ?_; (with_reducible refine (spec_Fresh.calls k _ _ t1075 t1076 t1077 t1082 _ ?side1 ?side2 A12.out).mono ?_); (case side1 => exact rc HO1079); (case side2 => exact (Kd.R_reads' HO1079.out).2.1); rintro e w20 ⟨rfl, hb⟩; refine ⟨_, rfl, ?_⟩; replace HO1079 := kr HO1079 hb; replace HB := am (below_step bl hb); clear hb) | (go_at_call 28; (with_reducible refine (spec_AgeAt.calls k _ _ t1075 t1076 t1077 t1083 _ ?side1 ?side2 A14.out).mono ?_); (case side1 => exact rc HO1079); (case side2 => exact (Kd.R_reads' HO1079.out).2.1); rintro e w21 ⟨rfl, hb⟩; replace HO1079 := kr HO1079 hb; replace HB := am (below_step bl hb); clear hb) | (go_at_call 29; (with_reducible refine (impl_Life.calls k _ _ t1075 t1084 _ ?side1 ?side2 ?side3 ?side4 ?side5 A18.out).mono ?_); (case side1 => exact GLOBE.below HGE.out bl); (case side2 => exact GLOBM.below HGM.out bl); (case side3 => exact GLOBT.below HGT.out bl); (case side4 => exact rc HO1079); (case side5 => exact (Kd.R_reads' HO1079.out).2.1); rintro e w22 ⟨rfl, hb⟩; replace HO1079 := kr HO1079 hb; replace HB := am (below_step bl hb); clear hb) | (go_at_call 30; (with_reducible refine (spec_Life.calls k _ _ t1075 t1085 _ ?side1 ?side2 A19.out).mono ?_); (case side1 => exact rc HO1079); (case side2 => exact (Kd.R_reads' HO1079.out).2.1); rintro e w23 ⟨rfl, hb⟩; replace HO1079 := kr HO1079 hb; replace HB := am (below_step bl hb); clear hb))
  go_meet
  case rel => exact ⟨_, ((t1084 != t1085)), rs, H', ⟨by first | omega | exact Nat.le_refl _⟩, ⟨by (with_reducible repeat (first | apply Kd.R_alloc | apply Kd.R_drewN | apply Kd.R_drew)); exact HO1079.out⟩, ⟨u5HB⟩⟩
 case rest =>
  clear HC7
  try clear c1
  try clear c2
  try clear p2
  try clear c3
  try clear c5
  try clear c12
  try clear c13
  try clear c13b0
  try clear c13b1
  try clear c13b2
  try clear c15
  try clear c15b0
  try clear c15b1
  try clear c16
  try clear c16b0
  try clear c17
  try clear c17b0
  try clear c22
  obtain ⟨kq, x55_6, rfl, HA, HJ6, HO_3, HB⟩ := hcut
  cases kq with
  | zero => exact absurd HA.out (by simp [laws_FnAges.j0])
  | succ kj6 =>
   have H := HA.out
   clear HA
   simp only [laws_FnAges.j0] at H
   by_cases c24 : x55_6 = true
   ·subst c24
    rw [if_pos rfl] at H
    exact absurd (Option.some.inj H) (by rw [ht_]; decide)
   replace c24 := Bool.eq_false_iff.mpr c24
   subst c24
   rw [if_neg (show ¬ (false = true) by decide)] at H
   revert H
   refine ok2 fun t1086 t1087 A25 H => ?_
   (try dsimp only at H)
   revert H
   refine ok1 fun t1088 A26 H => ?_
   have HC27 := am H
   clear H
   go_upto_region 10 with (first | (refine gl 58 Tryz.func31 #[.slice A0 l0.length c0] ?_; (with_reducible refine (spec_DrawPlus.calls kj6 _ _ l0 t1086 t1087 _ ?side1 ?side2 A25.out).mono ?_); (case side1 => exact cb HR0); (case side2 => exact HC0.out); rintro e w28 ⟨rfl, hb⟩; refine ⟨_, rfl, ?_⟩; replace HO_3 := kr HO_3 hb; replace HB := am (below_step bl hb); clear hb) | (refine gl 63 Tryz.func32 #[.int .i64 t1086, .int .i64 t1087] ?_; (with_reducible refine (impl_Plus.calls t1086 t1087 t1088 _ A26.out).mono ?_); rintro e w29 ⟨rfl, hb⟩; refine ⟨_, rfl, ?_⟩; replace HO_3 := kr HO_3 hb; replace HB := am (below_step bl hb); clear hb))
   (try simp only [Act.put, List.setIfInBounds_toArray, List.set_cons_zero, List.set_cons_succ])
   go_cut [83] (fun v83 wc => ∃ (kq : Nat) (x83_26 : Bool), v83 = .bool x83_26 ∧ Aside0 (laws_FnAges.j1 kq t1075 t1076 t1077 t1080 t1081 x83_26 = some r) ∧ Aside0 (kq ≤ kj6) ∧ Aside0 (Kd.R k116 116 wc w.heap.size (fun _ => True) (.slice Ao9 t1075.length co9) t1075) ∧ Aside0 (Below w.heap.size w wc))
   case first =>
    have H := HC27.out
    clear HC27
    revert H
    refine ok1 fun t1089 A30 H => ?_
    by_cases c31 : t1088 = t1089
    rotate_left
    ·rw [if_neg c31] at H
     have c31b0 : (t1088 == t1089) = false := beq_eq_false_iff_ne.mpr c31
     have c31b1 : (t1088 != t1089) = true := bne_iff_ne.mpr c31
     (first | rw [c31b0] | (simp only [i64_w, i32_w]; rw [c31b0]) | skip)
     cases kj6 with
     | zero => exact absurd H (by simp [laws_FnAges.j1])
     | succ k_ => simp only [laws_FnAges.j1, if_true] at H; exact absurd (Option.some.inj H) (by rw [ht_]; decide)
    rw [if_pos c31] at H
    have c31b0 : (t1088 == t1089) = true := beq_iff_eq.mpr c31
    have c31b1 : (t1088 != t1089) = false := bne_eq_false_iff_eq.mpr c31
    clear c31
    (first | rw [c31b0] | (simp only [i64_w, i32_w]; rw [c31b0]) | skip)
    revert H
    refine ok1 fun t1090 A32 H => ?_
    by_cases c33 : t1088 = t1090
    rotate_left
    ·rw [if_neg c33] at H
     have c33b0 : (t1088 == t1090) = false := beq_eq_false_iff_ne.mpr c33
     have c33b1 : (t1088 != t1090) = true := bne_iff_ne.mpr c33
     cases kj6 with
     | zero => exact absurd H (by simp [laws_FnAges.j1])
     | succ k_ => simp only [laws_FnAges.j1, if_true] at H; exact absurd (Option.some.inj H) (by rw [ht_]; decide)
    rw [if_pos c33] at H
    have c33b0 : (t1088 == t1090) = true := beq_iff_eq.mpr c33
    have c33b1 : (t1088 != t1090) = false := bne_eq_false_iff_eq.mpr c33
    clear c33
    by_cases c34 : t1088 < 0
    ·rw [if_pos c34] at H
     have c34b0 := decide_eq_true c34
     clear c34
     cases kj6 with
     | zero => exact absurd H (by simp [laws_FnAges.j1])
     | succ k_ => simp only [laws_FnAges.j1, if_true] at H; exact absurd (Option.some.inj H) (by rw [ht_]; decide)
    rw [if_neg c34] at H
    have c34b0 := decide_eq_false c34
    clear c34
    have H' := am H
    clear H
    go_wp2_with (first | (refine gl 67 Tryz.func33 #[.int .i64 t1086, .int .i64 t1087] ?_; (with_reducible refine (spec_Plus.calls t1086 t1087 t1089 _ A30.out).mono ?_); rintro e w' ⟨rfl, ⟨nd, rfl⟩⟩; refine ⟨_, rfl, ?_⟩) | (go_at_call 32; (with_reducible refine (impl_Plus.calls t1087 t1086 t1090 _ A32.out).mono ?_); rintro e w35 ⟨rfl, hb⟩; replace HO_3 := kr HO_3 hb; replace HB := am (below_step bl hb); clear hb))
    go_meet
    case rel => exact ⟨_, (decide (t1088 > 1000000)), rs, H', ⟨by have := HJ6.out; first | omega | exact Nat.le_refl _⟩, ⟨by (with_reducible repeat (first | apply Kd.R_alloc | apply Kd.R_drewN | apply Kd.R_drew)); exact HO_3.out⟩, ⟨u5HB⟩⟩
   case rest =>
    clear HC27
    try clear c1
    try clear c2
    try clear p2
    try clear c3
    try clear c5
    try clear c12
    try clear c13
    try clear c13b0
    try clear c13b1
    try clear c13b2
    try clear c15
    try clear c15b0
    try clear c15b1
    try clear c16
    try clear c16b0
    try clear c17
    try clear c17b0
    try clear c22
    try clear c24
    try clear c26
    try clear c27
    try clear c31
    try clear c31b0
    try clear c31b1
    try clear c32
    try clear c33
    try clear c33b0
    try clear c33b1
    try clear c34
    try clear c34b0
    try clear p2
    obtain ⟨kq, x83_26, rfl, HA, HJ26, HO_3, HB⟩ := hcut
    cases kq with
    | zero => exact absurd HA.out (by simp [laws_FnAges.j1])
    | succ kj26 =>
     have H := HA.out
     clear HA
     simp only [laws_FnAges.j1] at H
     by_cases c36 : x83_26 = true
     ·subst c36
      rw [if_pos rfl] at H
      exact absurd (Option.some.inj H) (by rw [ht_]; decide)
     replace c36 := Bool.eq_false_iff.mpr c36
     subst c36
     rw [if_neg (show ¬ (false = true) by decide)] at H
     have HC37 := am H
     clear H
     go_upto_region 12 with (fail)
     go_cut [89] (fun v89 wc => ∃ (kq : Nat) (x89_36 : Bool), v89 = .bool x89_36 ∧ Aside0 (laws_FnAges.j2 kq t1075 t1076 t1077 t1080 t1081 x89_36 = some r) ∧ Aside0 (kq ≤ kj26) ∧ Aside0 (Kd.R k116 116 wc w.heap.size (fun _ => True) (.slice Ao9 t1075.length co9) t1075) ∧ Aside0 (Below w.heap.size w wc))
     case first =>
      have H := HC37.out
      clear HC37
      by_cases c38 : t1077 < (-1000000000)
      ·rw [if_pos c38] at H
       have c38b0 := decide_eq_true c38
       clear c38
       (first | rw [c38b0] | (simp only [i64_w, i32_w]; rw [c38b0]) | skip)
       have H' := am H
       clear H
       go_wp2
       go_meet
       case rel => exact ⟨_, (true), rs, H', ⟨by have := HJ6.out; have := HJ26.out; first | omega | exact Nat.le_refl _⟩, ⟨by (with_reducible repeat (first | apply Kd.R_alloc | apply Kd.R_drewN | apply Kd.R_drew)); exact HO_3.out⟩, ⟨u5HB⟩⟩
      rw [if_neg c38] at H
      have c38b0 := decide_eq_false c38
      clear c38
      (first | rw [c38b0] | (simp only [i64_w, i32_w]; rw [c38b0]) | skip)
      have H' := am H
      clear H
      go_wp2
      go_meet
      case rel => exact ⟨_, (decide (t1077 > 1000000000)), rs, H', ⟨by have := HJ6.out; have := HJ26.out; first | omega | exact Nat.le_refl _⟩, ⟨by (with_reducible repeat (first | apply Kd.R_alloc | apply Kd.R_drewN | apply Kd.R_drew)); exact HO_3.out⟩, ⟨u5HB⟩⟩
     case rest =>
      clear HC37
      try clear c1
      try clear c2
      try clear p2
      try clear c3
      try clear c5
      try clear c12
      try clear c13
      try clear c13b0
      try clear c13b1
      try clear c13b2
      try clear c15
      try clear c15b0
      try clear c15b1
      try clear c16
      try clear c16b0
      try clear c17
      try clear c17b0
      try clear c22
      try clear c24
      try clear c26
      try clear c27
      try clear c31
      try clear c31b0
      try clear c31b1
      try clear c32
      try clear c33
      try clear c33b0
      try clear c33b1
      try clear c34
      try clear c34b0
      try clear c36
      try clear c38
      try clear c38b0
      try clear p2
      obtain ⟨kq, x89_36, rfl, HA, HJ36, HO_3, HB⟩ := hcut
      cases kq with
      | zero => exact absurd HA.out (by simp [laws_FnAges.j2])
      | succ kj36 =>
       have H := HA.out
       clear HA
       simp only [laws_FnAges.j2] at H
       by_cases c39 : x89_36 = true
       ·subst c39
        rw [if_pos rfl] at H
        obtain rfl := Option.some.inj H
        go_wp2
        go_ret
        exact ⟨rf, bl⟩
       replace c39 := Bool.eq_false_iff.mpr c39
       subst c39
       rw [if_neg (show ¬ (false = true) by decide)] at H
       revert H
       refine ok1 fun t1091 A40 H => ?_
       by_cases c41 : t1091 ≤ t1081
       rotate_left
       ·rw [if_neg c41] at H
        have c41b0 := decide_eq_false c41
        clear c41
        exact absurd (Option.some.inj H) (by rw [ht_]; decide)
       rw [if_pos c41] at H
       have c41b0 := decide_eq_true c41
       clear c41
       by_cases c42 : t1080 = true
       rotate_left
       ·replace c42 := Bool.eq_false_iff.mpr c42
        subst c42
        rw [if_neg (show ¬ (false = true) by decide)] at H
        obtain rfl := Option.some.inj H
        go_wp2_with (first | (refine gl 94 Tryz.func27 #[.slice Ao9 t1075.length co9, .int .i64 t1076, .int .i64 (wrap64 (t1077 - 1))] ?_; (with_reducible refine (impl_AgeAt.calls _ _ t1075 t1076 (wrap64 (t1077 - 1)) t1091 _ ?side1 ?side2 ?side3 ?side4 A40.out).mono ?_); (case side1 => exact GLOBE.below HGE.out bl); (case side2 => exact GLOBT.below HGT.out bl); (case side3 => exact rc HO_3); (case side4 => exact (Kd.R_reads' HO_3.out).2.1); rintro e w49 ⟨rfl, hb⟩; refine ⟨_, rfl, ?_⟩; replace HO_3 := kr HO_3 hb; replace HB := am (below_step bl hb); clear hb))
        go_ret
        exact ⟨rf, bl⟩
       subst c42
       rw [if_pos rfl] at H
       revert H
       refine ok1 fun t1092 A43 H => ?_
       by_cases c44 : t1092 = true
       rotate_left
       ·replace c44 := Bool.eq_false_iff.mpr c44
        subst c44
        rw [if_neg (show ¬ (false = true) by decide)] at H
        exact absurd (Option.some.inj H) (by rw [ht_]; decide)
       subst c44
       rw [if_pos rfl] at H
       revert H
       refine ok1 fun t1093 A45 H => ?_
       obtain rfl := Option.some.inj H
       go_wp2_with (first | (refine gl 94 Tryz.func27 #[.slice Ao9 t1075.length co9, .int .i64 t1076, .int .i64 (wrap64 (t1077 - 1))] ?_; (with_reducible refine (impl_AgeAt.calls _ _ t1075 t1076 (wrap64 (t1077 - 1)) t1091 _ ?side1 ?side2 ?side3 ?side4 A40.out).mono ?_); (case side1 => exact GLOBE.below HGE.out bl); (case side2 => exact GLOBT.below HGT.out bl); (case side3 => exact rc HO_3); (case side4 => exact (Kd.R_reads' HO_3.out).2.1); rintro e w46 ⟨rfl, hb⟩; refine ⟨_, rfl, ?_⟩; replace HO_3 := kr HO_3 hb; replace HB := am (below_step bl hb); clear hb) | (go_at_call 24; (with_reducible refine (impl_Fresh.calls kj36 _ _ t1075 t1076 (wrap64 (t1077 - 1)) true _ ?side1 ?side2 ?side3 ?side4 ?side5 A43.out).mono ?_); (case side1 => exact GLOBE.below HGE.out bl); (case side2 => exact GLOBM.below HGM.out bl); (case side3 => exact GLOBT.below HGT.out bl); (case side4 => exact rc HO_3); (case side5 => exact (Kd.R_reads' HO_3.out).2.1); rintro e w47 ⟨rfl, hb⟩; replace HO_3 := kr HO_3 hb; replace HB := am (below_step bl hb); clear hb) | (go_at_call 29; (with_reducible refine (impl_Life.calls kj36 _ _ t1075 t1093 _ ?side1 ?side2 ?side3 ?side4 ?side5 A45.out).mono ?_); (case side1 => exact GLOBE.below HGE.out bl); (case side2 => exact GLOBM.below HGM.out bl); (case side3 => exact GLOBT.below HGT.out bl); (case side4 => exact rc HO_3); (case side5 => exact (Kd.R_reads' HO_3.out).2.1); rintro e w48 ⟨rfl, hb⟩; replace HO_3 := kr HO_3 hb; replace HB := am (below_step bl hb); clear hb))
       go_ret
       exact ⟨rf, bl⟩

end Go.Proofs.YtdbgkookjpgnnaaGreatDoor.All
