-- Written by a program of this session (wip/tools/hprint.py) out of the translation. Lean checks it.
import Derived.Test.YtnmanegjgidgcaaGreatDoorAllx0
import Derived.Test.YtnmanegjgidgcaaGreatDoorAllx1
import Derived.Test.YtnmanegjgidgcaaGreatDoorAllx6
import Derived.Test.YtnmanegjgidgcaaGreatDoorAllx8
import Derived.Test.YtnmanegjgidgcaaGreatDoorAllx14
import Derived.Test.YtnmanegjgidgcaaGreatDoorAllx15
import Derived.Test.YtnmanegjgidgcaaGreatDoorAllx18
namespace Go.Proofs.YtnmanegjgidgcaaGreatDoor.All
open Go.RowKit Go.Proofs.YtnmanegjgidgcaaGreatDoorW.PrintWords Go.Proofs.YtnmanegjgidgcaaGreatDoorW.PrintLast Go.Proofs.YtnmanegjgidgcaaGreatDoorW.PrintMore
attribute [local go_sem] max2_int min2_int max_two min_two max_three min_three max_four min_four   -- for this text's walks alone
set_option linter.unusedVariables false
set_option linter.unusedSimpArgs false

/-! ### spec_DrawRespText: function 32 -/
theorem u32HB {p : Prop} (h : p := by repeat (first | (with_reducible first | exact HB.out | apply below_alloc | apply pw_below_drewN | apply below_drew1 | refine below_set ?_ GE869.out | refine below_set ?_ (IsS122.ge HI873.out)) | exact HB.out)) : p := h
theorem u32HI873 {p : Prop} (h : p := by repeat (first | (with_reducible first | exact HI873.out | apply IsS122.alloc | apply IsS122.drewN | apply IsS122.drew | apply IsS122.set_1 | apply IsS122.set_2 | apply IsS122.far (p := ⟨gb869, _, none⟩) (hne := NB873_869.out)) | exact HI873.out)) : p := h
def spec_DrawRespText.f (k : Nat) (l0 : List Int) : Option (Int × (List (S100)) × ByteArray) := (spec_l1New.f k l0).bind fun bt870 => ((spec_l3DrawBadResp.f k bt870.1 bt870.2.1 bt870.2.2).bind fun bt874 => (some (bt874.1, bt874.2.1, bt874.2.2.1)))
theorem spec_DrawRespText.mono : ∀ a0 k, LeO (spec_DrawRespText.f k a0) (spec_DrawRespText.f (k + 1) a0) := by
 intro a0 k
 unfold spec_DrawRespText.f
 have m0 := @spec_l1New.mono
 have m1 := @spec_l3DrawBadResp.mono
 exact mo
set_option maxHeartbeats 8000000 in
set_option maxRecDepth 100000 in
theorem spec_DrawRespText.calls (k : Nat) (A0 : Option Addr) (c0 : Nat) (l0 : List Int) (r1 : Int) (r2 : List (S100)) (r3 : ByteArray) (w : World) (hr0 : Kd.C (Kd.int .u8) w A0 l0.length l0) (hc0 : l0.length ≤ c0) (h : spec_DrawRespText.f k l0 = some (r1, r2, r3)) :
  Calls Tryz.prog 32 #[.slice A0 l0.length c0] w fun e w' => ∃ v1_ : Value, e = .returned (.agg #[.int .i64 r1, v1_, .string r3]) ∧ Kd.R k100 100 w' w.heap.size (fun _ => True) v1_ r2 ∧ Below w.heap.size w w' := by
 have hu48 := Tryz.underlying48
 have HR0 := am hr0
 have HC0 := am hc0
 clear hr0 hc0
 have HB := am (Below.refl w.heap.size w)
 unfold spec_DrawRespText.f at h
 have H := h
 clear h
 revert H
 refine ok3 fun t870 t871 t872 A2 H => ?_
 (try dsimp only at H)
 revert H
 refine ok5 fun t874 t875 t878 t879 t880 A3 H => ?_
 (try dsimp only at H)
 simp only [Option.some.injEq, Prod.mk.injEq] at H
 obtain ⟨rfl, rfl, rfl⟩ := H
 go_enter Tryz.func32, Tryz.ntmps32
 go_wp2_with (first | (refine bx 2 #[.int .i64 0, .slice none 0 0, .string (⟨#[]⟩ : ByteArray)] 48 ?_; intro gb869 hg w4 hbox hb; have BK869 := am (hbox); have GW869 := am (sz hg : w.heap.size ≤ gb869); have GE869 := am (sz hg : w.heap.size ≤ gb869); replace HB := am (below_step bl hb); clear hb hbox hg) | (refine gl 4 Tryz.func61 #[.slice A0 l0.length c0] ?_; (with_reducible refine (spec_l1New.calls k _ _ l0 t870 t871 t872 w _ ?side1 ?side2 ?side3 A2.out).mono ?_); (case side1 => exact u32HB); (case side2 => exact HR0.out); (case side3 => exact HC0.out); rintro e w5 ⟨g873, rfl, hi, hb, hb2⟩; refine ⟨_, rfl, ?_⟩; replace HB := am (hb); have HI873 := am (hi); have NB873_869 := am (IsS122.ne_blk hi (blk_below (g := gb869) (o := .cells #[.int .i64 0, .slice none 0 0, .string (⟨#[]⟩ : ByteArray)] 48 (0, 0)) (bk BK869) hb2) (by decide)); have NB869_873 := am (Ne.symm (IsS122.ne_blk hi (blk_below (g := gb869) (o := .cells #[.int .i64 0, .slice none 0 0, .string (⟨#[]⟩ : ByteArray)] 48 (0, 0)) (bk BK869) hb2) (by decide))); replace BK869 := am (blk_below (g := gb869) (o := .cells #[.int .i64 0, .slice none 0 0, .string (⟨#[]⟩ : ByteArray)] 48 (0, 0)) (bk BK869) hb2); clear hb hb2 hi) | (refine gl 5 Tryz.func94 #[.pointer (some ⟨g873, 0, none⟩)] ?_; (with_reducible refine (spec_l3DrawBadResp.calls k g873 t870 t871 t872 t874 t875 t878 t879 t880 w _ ?side1 ?side2 A3.out).mono ?_); (case side1 => exact u32HI873); (case side2 => exact u32HB); rintro e w6 ⟨v876, rfl, ho0, hi, hb, hk⟩; refine ⟨_, rfl, ?_⟩; replace BK869 := kp BK869 hk NB869_873; have HO877 := am (Kd.R_lower ho0 (below_size u32HB)); replace HB := am (hb); replace HI873 := am (hi); clear hb hk hi ho0; have hnb7 := NB869_873.out; have hnc7 := NB873_869.out; obtain ⟨z8_0, y8_0, z8_1, y8_1, z8_2, y8_2⟩ := cl3 BK869; obtain ⟨Ao9, co9, eo9⟩ := Kd.R_slice HO877.out; subst eo9))
 refine bodyPost_ret (results_cell_row rfl _ _ gb869 48 #[.int .i64 t874, .slice Ao9 t875.length co9, .string t878] (0, 0) _ rfl (pt0 BK869) Tryz.underlying48 rfl (by kernel_rfl)) rfl ?_
 exact ⟨_, rf, rg (Kd.R_types HO877.out BK869.out (by decide)), u32HB⟩

/-! ### spec_DrawRespRead: function 36 -/
theorem u36HB {p : Prop} (h : p := by repeat (first | (with_reducible first | exact HB.out | apply below_alloc | apply pw_below_drewN | apply below_drew1 | refine below_set ?_ (IsS122.ge HI884.out)) | exact HB.out)) : p := h
theorem u36HI884 {p : Prop} (h : p := by repeat (first | (with_reducible first | exact HI884.out | apply IsS122.alloc | apply IsS122.drewN | apply IsS122.drew | apply IsS122.set_1 | apply IsS122.set_2) | exact HI884.out)) : p := h
def spec_DrawRespRead.f (k : Nat) (l0 : List Int) : Option (ByteArray) := (spec_l1New.f k l0).bind fun bt881 => ((spec_l3DrawResp.f k bt881.1 bt881.2.1 bt881.2.2).bind fun bt885 => ((spec_RespText.f k bt885.1 bt885.2.1 bt885.2.2.1).bind fun t892 => ((spec_l3Dent.f bt881.1 bt885.2.2.2.1 bt885.2.2.2.2 t892 (([(⟨#[32]⟩ : ByteArray), (⟨#[13, 10]⟩ : ByteArray), (⟨#[97, 58, 32, 98, 13, 10]⟩ : ByteArray), (⟨#[120]⟩ : ByteArray), (⟨#[48]⟩ : ByteArray), (⟨#[10]⟩ : ByteArray)] : List ByteArray))).bind fun bt896 => (some bt896.1))))
theorem spec_DrawRespRead.mono : ∀ a0 k, LeO (spec_DrawRespRead.f k a0) (spec_DrawRespRead.f (k + 1) a0) := by
 intro a0 k
 unfold spec_DrawRespRead.f
 have m0 := @spec_RespText.mono
 have m1 := @spec_l1New.mono
 have m2 := @spec_l3DrawResp.mono
 exact mo
set_option maxHeartbeats 8000000 in
set_option maxRecDepth 100000 in
theorem spec_DrawRespRead.calls (k : Nat) (A0 : Option Addr) (c0 : Nat) (l0 : List Int) (r : ByteArray) (w : World) (hr0 : Kd.C (Kd.int .u8) w A0 l0.length l0) (hc0 : l0.length ≤ c0) (h : spec_DrawRespRead.f k l0 = some r) :
  Calls Tryz.prog 36 #[.slice A0 l0.length c0] w fun e w' => e = .returned (.string r) ∧ Below w.heap.size w w' := by
 have HR0 := am hr0
 have HC0 := am hc0
 clear hr0 hc0
 have HB := am (Below.refl w.heap.size w)
 unfold spec_DrawRespRead.f at h
 have H := h
 clear h
 revert H
 refine ok3 fun t881 t882 t883 A2 H => ?_
 (try dsimp only at H)
 revert H
 refine ok5 fun t885 t886 t889 t890 t891 A3 H => ?_
 (try dsimp only at H)
 revert H
 refine ok1 fun t892 A4 H => ?_
 obtain ⟨y893, hy893⟩ : ∃ y_ : List ByteArray, y_ = (([(⟨#[32]⟩ : ByteArray), (⟨#[13, 10]⟩ : ByteArray), (⟨#[97, 58, 32, 98, 13, 10]⟩ : ByteArray), (⟨#[120]⟩ : ByteArray), (⟨#[48]⟩ : ByteArray), (⟨#[10]⟩ : ByteArray)] : List ByteArray)) := ⟨_, rfl⟩
 replace H : ((spec_l3Dent.f t881 t890 t891 t892 y893).bind fun bt896 => (some bt896.1)) = some r := by first | (rw [hy893]; with_reducible exact H) | (have H2_ := (Option.bind_some _ _).symm.trans H; rw [hy893]; with_reducible exact H2_) | (have H2_ := (Option.bind_some _ _).symm.trans H; with_reducible exact H2_) | with_reducible exact H | (rw [hy893]; exact H) | exact H
 have Ny893 := am hy893
 clear hy893
 revert H
 refine ok3 fun t896 t897 t898 A5 H => ?_
 (try dsimp only at H)
 obtain rfl := Option.some.inj H
 go_enter Tryz.func36, Tryz.ntmps36
 go_wp2_with (first | (refine gl 5 Tryz.func61 #[.slice A0 l0.length c0] ?_; (with_reducible refine (spec_l1New.calls k _ _ l0 t881 t882 t883 w _ ?side1 ?side2 ?side3 A2.out).mono ?_); (case side1 => exact u36HB); (case side2 => exact HR0.out); (case side3 => exact HC0.out); rintro e w6 ⟨g884, rfl, hi, hb, hb2⟩; refine ⟨_, rfl, ?_⟩; replace HB := am (hb); have HI884 := am (hi); clear hb hb2 hi) | (refine gl 8 Tryz.func97 #[.pointer (some ⟨g884, 0, none⟩)] ?_; (with_reducible refine (spec_l3DrawResp.calls k g884 t881 t882 t883 t885 t886 t889 t890 t891 w _ ?side1 ?side2 A3.out).mono ?_); (case side1 => exact u36HI884); (case side2 => exact u36HB); rintro e w7 ⟨v887, rfl, ho0, hi, hb, hk⟩; refine ⟨_, rfl, ?_⟩; have HO888 := am (Kd.R_lower ho0 (below_size u36HB)); replace HB := am (hb); replace HI884 := am (hi); clear hb hk hi ho0; obtain ⟨Ao8, co8, eo8⟩ := Kd.R_slice HO888.out; subst eo8) | (refine gl 9 Tryz.func34 #[.agg #[.int .i64 t885, .slice Ao8 t886.length co8, .string t889]] ?_; (with_reducible refine (spec_RespText.calls k t885 _ _ t886 t889 t892 _ ?side1 ?side2 A4.out).mono ?_); (case side1 => exact rc HO888); (case side2 => exact (Kd.R_reads' HO888.out).2.1); rintro e w9 ⟨rfl, hb⟩; refine ⟨_, rfl, ?_⟩; replace HO888 := kr HO888 hb; replace HB := am (below_step u36HB hb); replace HI884 := am (IsS122.below u36HI884 hb); clear hb) | ((with_reducible refine gate_dst (N := 10) rfl ?_); refine Kd.R_lit Kd.string _ 9 ?hg (N := 10) ?hd (xs := ([(⟨#[32]⟩ : ByteArray), (⟨#[13, 10]⟩ : ByteArray), (⟨#[97, 58, 32, 98, 13, 10]⟩ : ByteArray), (⟨#[120]⟩ : ByteArray), (⟨#[48]⟩ : ByteArray), (⟨#[10]⟩ : ByteArray)] : List ByteArray)) (inner := [.string (⟨#[32]⟩ : ByteArray), .string (⟨#[13, 10]⟩ : ByteArray), .string (⟨#[97, 58, 32, 98, 13, 10]⟩ : ByteArray), .string (⟨#[120]⟩ : ByteArray), .string (⟨#[48]⟩ : ByteArray), .string (⟨#[10]⟩ : ByteArray)]) (ok := fun _ => True) (okp := fun _ => True) ?hr ?hp (fun _ hk => hk) trivial (Below.refl _ _) (Nat.le_refl _) (by simp) ?_; (case hd => rfl); (case hg => rfl); (case hr => first | (go_simp; done) | (go_simp; rfl)); (case hp => exact rp); intro v894 w10 ho11 hb hg_ hnew_; clear hg_ hnew_; (first | rw [← Ny893.out] at ho11 | (simp only [Int.reduceToNat] at ho11; rw [← Ny893.out] at ho11)); replace HO888 := kr HO888 hb; have HO895 := am (Kd.R_lower ho11 (below_size u36HB)); replace HB := am (below_step u36HB hb); replace HI884 := am (IsS122.below u36HI884 hb); clear hb ho11; obtain ⟨Ao12, co12, eo12⟩ := Kd.R_slice HO895.out; subst eo12) | (refine gl 11 Tryz.func85 #[.pointer (some ⟨g884, 0, none⟩), .string t892, .slice Ao12 y893.length co12] ?_; (with_reducible refine (spec_l3Dent.calls g884 t881 t890 t891 t892 _ _ y893 t896 t897 t898 w _ ?side1 ?side2 ?side3 ?side4 ?side5 A5.out).mono ?_); (case side1 => exact u36HI884); (case side2 => exact u36HB); (case side3 => exact rc HO895); (case side4 => exact (Kd.R_reads' HO895.out).2.1); (case side5 => exact far_slice (IsS122.own_ne HI884.out HO895.out (by decide))); rintro e w13 ⟨rfl, hi, hb, hk⟩; refine ⟨_, rfl, ?_⟩; replace HO888 := am (Kd.R_mono (Kd.R_keep (IsS122.apart (show IsS122 w _ g884 t881 t890 t891 from u36HI884) (ro HO888) (by decide)) hk (fun _ h => h.2)) (fun _ h => h.1)); replace HO895 := am (Kd.R_mono (Kd.R_keep (IsS122.apart (show IsS122 w _ g884 t881 t890 t891 from u36HI884) (ro HO895) (by decide)) hk (fun _ h => h.2)) (fun _ h => h.1)); replace HB := am (hb); replace HI884 := am (hi); clear hb hk hi))
 go_ret
 exact ⟨rf, u36HB⟩

/-! ### laws_FnResponses: function 6 -/
theorem u6HB {p : Prop} (h : p := by repeat (first | (with_reducible first | exact HB.out | apply below_alloc | apply pw_below_drewN | apply below_drew1 | refine below_set ?_ GE905.out | refine below_set ?_ GE915.out) | exact HB.out)) : p := h
mutual
def laws_FnResponses.j0 : Nat → List Int → ByteArray → Bool → Int → List (S100) → ByteArray → Option (Bool)
 | 0, _, _, _, _, _, _ => none
 | k + 1, x0, x4, x28, x906000, x906001, x906002 => if x28 = true then (some false) else (if x4.toList = ([] : List UInt8) then (laws_FnResponses.j1 k x0) else ((impl_RespRead.f k x4).bind fun bt909 => (if bt909.2.2.2 = true then (if bt909.1 = x906000 then (if bt909.2.2.1.toList = x906002.toList then ((laws_sameFields.f k bt909.2.1 x906001).bind fun t916 => (if t916 = true then (laws_FnResponses.j1 k x0) else (some false))) else (some false)) else (some false)) else (some false))))
def laws_FnResponses.j1 : Nat → List Int → Option (Bool)
 | 0, _ => none
 | k + 1, x0 => (spec_DrawRespRead.f k x0).bind fun t917 => ((impl_RespRead.f k t917).bind fun bt918 => ((spec_RespRead.f k t917).bind fun bt925 => (if (bt918.2.2.2 == bt925.2.2.2) = true then (if bt918.2.2.2 = true then ((impl_RespText.f k bt918.1 bt918.2.1 bt918.2.2.1).bind fun t932 => (if t932.toList = t917.toList then ((impl_RespOk.f k bt918.1 bt918.2.1 bt918.2.2.1).bind fun t933 => (some t933)) else (some false))) else (if bt918.1 = 0 then (some true) else (some false))) else (some false))))
end
def laws_FnResponses.f (k : Nat) (l0 : List Int) : Option (Bool) := (laws_big.f l0).bind fun t899 => (if t899 = true then (some true) else ((spec_DrawRespText.f k l0).bind fun bt900 => ((impl_RespText.f k bt900.1 bt900.2.1 bt900.2.2).bind fun t906 => ((spec_RespText.f k bt900.1 bt900.2.1 bt900.2.2).bind fun t907 => (if t906.toList = t907.toList then ((impl_RespOk.f k bt900.1 bt900.2.1 bt900.2.2).bind fun t908 => (laws_FnResponses.j0 k l0 t906 ((t906.toList != ([] : List UInt8)) != t908) bt900.1 bt900.2.1 bt900.2.2)) else (laws_FnResponses.j0 k l0 t906 true bt900.1 bt900.2.1 bt900.2.2))))))
theorem laws_FnResponses.mono_l : ∀ k, (∀ y0 y1 y2 y3 y4 y5, LeO (laws_FnResponses.j0 k y0 y1 y2 y3 y4 y5) (laws_FnResponses.j0 (k + 1) y0 y1 y2 y3 y4 y5)) ∧ (∀ y0, LeO (laws_FnResponses.j1 k y0) (laws_FnResponses.j1 (k + 1) y0))
 | 0 => ⟨fun _ _ _ _ _ _ r h => by simp [laws_FnResponses.j0] at h, fun _ r h => by simp [laws_FnResponses.j1] at h⟩
 | k + 1 => by
  obtain ⟨ih0, ih1⟩ := laws_FnResponses.mono_l k
  refine ⟨?_, ?_⟩
  ·intro y0 y1 y2 y3 y4 y5
   unfold laws_FnResponses.j0
   have m0 := @impl_RespOk.mono
   have m1 := @impl_RespRead.mono
   have m2 := @impl_RespText.mono
   have m3 := @laws_sameFields.mono
   have m4 := @spec_DrawRespRead.mono
   have m5 := @spec_DrawRespText.mono
   have m6 := @spec_RespRead.mono
   have m7 := @spec_RespText.mono
   exact mo
  ·intro y0
   unfold laws_FnResponses.j1
   have m0 := @impl_RespOk.mono
   have m1 := @impl_RespRead.mono
   have m2 := @impl_RespText.mono
   have m3 := @laws_sameFields.mono
   have m4 := @spec_DrawRespRead.mono
   have m5 := @spec_DrawRespText.mono
   have m6 := @spec_RespRead.mono
   have m7 := @spec_RespText.mono
   exact mo
theorem laws_FnResponses.mono : ∀ a0 k, LeO (laws_FnResponses.f k a0) (laws_FnResponses.f (k + 1) a0) := by
 intro a0 k
 obtain ⟨ih0, ih1⟩ := laws_FnResponses.mono_l k
 unfold laws_FnResponses.f
 have m0 := @impl_RespOk.mono
 have m1 := @impl_RespRead.mono
 have m2 := @impl_RespText.mono
 have m3 := @laws_sameFields.mono
 have m4 := @spec_DrawRespRead.mono
 have m5 := @spec_DrawRespText.mono
 have m6 := @spec_RespRead.mono
 have m7 := @spec_RespText.mono
 exact mo
set_option maxHeartbeats 8000000 in
set_option maxRecDepth 100000 in
theorem laws_FnResponses.calls (k : Nat) (A0 : Option Addr) (c0 : Nat) (l0 : List Int) (r : Bool) (w : World) (hGE : GLOBE w) (hGM : GLOBM w) (hGT : GLOBT w) (hr0 : Kd.C (Kd.int .u8) w A0 l0.length l0) (hc0 : l0.length ≤ c0) (ht_ : r = true) (h : laws_FnResponses.f k l0 = some r) :
  Calls Tryz.prog 6 #[.slice A0 l0.length c0] w fun e w' => e = .returned (.bool r) ∧ Below w.heap.size w w' := by
 have hu48 := Tryz.underlying48
 have HR0 := am hr0
 have HC0 := am hc0
 clear hr0 hc0
 have HGE := am hGE
 clear hGE
 have HGM := am hGM
 clear hGM
 have HGT := am hGT
 clear hGT
 have HB := am (Below.refl w.heap.size w)
 unfold laws_FnResponses.f at h
 have H := h
 clear h
 revert H
 refine ok1 fun t899 A2 H => ?_
 by_cases c3 : t899 = true
 ·subst c3
  rw [if_pos rfl] at H
  obtain rfl := Option.some.inj H
  go_enter Tryz.func6, Tryz.ntmps6
  go_wp2_with (first | (refine gl 13 Tryz.func12 #[.slice A0 l0.length c0] ?_; (with_reducible refine (laws_big.calls _ _ l0 true _ ?side1 ?side2 A2.out).mono ?_); (case side1 => exact cc HR0); (case side2 => exact HC0.out); rintro e w' ⟨rfl, ⟨nd, rfl⟩⟩; refine ⟨_, rfl, ?_⟩))
  go_ret
  exact ⟨rf, bl⟩
 replace c3 := Bool.eq_false_iff.mpr c3
 subst c3
 rw [if_neg (show ¬ (false = true) by decide)] at H
 revert H
 refine ok3 fun t900 t901 t904 A4 H => ?_
 (try dsimp only at H)
 revert H
 refine ok1 fun t906 A5 H => ?_
 have HC6 := am H
 clear H
 go_enter Tryz.func6, Tryz.ntmps6
 go_upto_region 5 with (first | (refine gl 13 Tryz.func12 #[.slice A0 l0.length c0] ?_; (with_reducible refine (laws_big.calls _ _ l0 false _ ?side1 ?side2 A2.out).mono ?_); (case side1 => exact cc HR0); (case side2 => exact HC0.out); rintro e w' ⟨rfl, ⟨nd, rfl⟩⟩; refine ⟨_, rfl, ?_⟩) | (refine gl 15 Tryz.func32 #[.slice A0 l0.length c0] ?_; (with_reducible refine (spec_DrawRespText.calls k _ _ l0 t900 t901 t904 _ ?side1 ?side2 A4.out).mono ?_); (case side1 => exact cc HR0); (case side2 => exact HC0.out); rintro e w7 ⟨v902, rfl, ho0, hb⟩; refine ⟨_, rfl, ?_⟩; have HO903 := am (Kd.R_lower ho0 (below_size bl)); replace HB := am (below_step bl hb); clear hb ho0) | (refine bx 3 #[.int .i64 0, .slice none 0 0, .string (⟨#[]⟩ : ByteArray)] 48 ?_; intro gb905 hg w8 hbox hb; replace HO903 := am (Kd.R_below (ro HO903) hb); have BK905 := am (hbox); have GW905 := am (sz hg : w.heap.size ≤ gb905); have GE905 := am (sz hg : w.heap.size ≤ gb905); replace HB := am (below_step bl hb); clear hb hbox hg; obtain ⟨z9_0, y9_0, z9_1, y9_1, z9_2, y9_2⟩ := cl3 BK905; obtain ⟨Ao10, co10, eo10⟩ := Kd.R_slice HO903.out; subst eo10) | (refine gl 17 Tryz.func33 #[.agg #[.int .i64 t900, .slice Ao10 t901.length co10, .string t904]] ?_; (with_reducible refine (impl_RespText.calls k t900 _ _ t901 t904 t906 _ ?side1 ?side2 ?side3 A5.out).mono ?_); (case side1 => exact GLOBT.below HGT.out bl); (case side2 => refine (Kd.R_reads' (e := 100) (base := w.heap.size) (ok := fun k_ => True) (n := t901.length) (c := co10) ?_).2.2; exact (by (with_reducible repeat (first | apply Kd.R_alloc | apply Kd.R_drewN | apply Kd.R_drew)); exact (Kd.R_mono (Kd.R_far (p := ⟨gb905, 2, none⟩) (Kd.R_far (p := ⟨gb905, 1, none⟩) (Kd.R_far (p := ⟨gb905, 0, none⟩) (Kd.R_types HO903.out BK905.out (by decide)) (fun _ hk => hk.2) (.int .i64 t900)) (fun _ hk => hk.2) (.slice Ao10 t901.length co10)) (fun _ hk => hk.2) (.string t904)) (fun _ h_ => h_.1)))); (case side3 => exact (Kd.R_reads' HO903.out).2.1); rintro e w11 ⟨rfl, hb⟩; refine ⟨_, rfl, ?_⟩; have n0_ := am (Kd.R_below (by (with_reducible repeat (first | apply Kd.R_alloc | apply Kd.R_drewN | apply Kd.R_drew)); exact (Kd.R_mono (Kd.R_far (p := ⟨gb905, 2, none⟩) (Kd.R_far (p := ⟨gb905, 1, none⟩) (Kd.R_far (p := ⟨gb905, 0, none⟩) (Kd.R_types HO903.out BK905.out (by decide)) (fun _ hk => hk.2) (.int .i64 t900)) (fun _ hk => hk.2) (.slice Ao10 t901.length co10)) (fun _ hk => hk.2) (.string t904)) (fun _ h_ => h_.1))) hb); have n1_ := am (blk_below (g := gb905) (o := .cells #[.int .i64 t900, .slice Ao10 t901.length co10, .string t904] 48 (0, 0)) (pt0 BK905) hb); have n2_ := am (below_step bl hb); clear HO903; clear BK905; clear HB; have HO903 := n0_; have BK905 := n1_; have HB := n2_; clear n0_ n1_ n2_; clear hb))
 (try simp only [Act.put, List.setIfInBounds_toArray, List.set_cons_zero, List.set_cons_succ])
 go_cut [28] (fun v28 wc => ∃ (kq : Nat) (x28_5 : Bool), v28 = .bool x28_5 ∧ Aside0 (laws_FnResponses.j0 kq l0 t906 x28_5 t900 t901 t904 = some r) ∧ Aside0 (kq ≤ k) ∧ Aside0 (Kd.R k100 100 wc w.heap.size (fun _ => True) (.slice Ao10 t901.length co10) t901) ∧ Aside0 (wc.heap[gb905]? = some (.cells #[.int .i64 t900, (.slice Ao10 t901.length co10), .string t904] 48 (0, 0))) ∧ Aside0 (Below w.heap.size w wc))
 case first =>
  have H := HC6.out
  clear HC6
  revert H
  refine ok1 fun t907 A12 H => ?_
  by_cases c13 : t906.toList = t907.toList
  rotate_left
  ·rw [if_neg c13] at H
   have c13b0 : (t906.toList == t907.toList) = false := beq_eq_false_iff_ne.mpr c13
   have c13b1 : (t906.toList != t907.toList) = true := bne_iff_ne.mpr c13
   (first | rw [c13b0] | (simp only [i64_w, i32_w]; rw [c13b0]) | skip)
   cases k with
   | zero => exact absurd H (by simp [laws_FnResponses.j0])
   | succ k_ => simp only [laws_FnResponses.j0, if_true] at H; exact absurd (Option.some.inj H) (by rw [ht_]; decide)
  rw [if_pos c13] at H
  have c13b0 : (t906.toList == t907.toList) = true := beq_iff_eq.mpr c13
  have c13b1 : (t906.toList != t907.toList) = false := bne_eq_false_iff_eq.mpr c13
  clear c13
  (first | rw [c13b0] | (simp only [i64_w, i32_w]; rw [c13b0]) | skip)
  revert H
  refine ok1 fun t908 A14 H => ?_
  have H' := am H
  clear H
  obtain ⟨z15_0, y15_0, z15_1, y15_1, z15_2, y15_2⟩ := cl3 BK905
  go_wp2_with (first | (refine gl 20 Tryz.func34 #[.agg #[.int .i64 t900, .slice Ao10 t901.length co10, .string t904]] ?_; (with_reducible refine (spec_RespText.calls k t900 _ _ t901 t904 t907 _ ?side1 ?side2 A12.out).mono ?_); (case side1 => exact rc HO903); (case side2 => exact (Kd.R_reads' HO903.out).2.1); rintro e w16 ⟨rfl, hb⟩; refine ⟨_, rfl, ?_⟩; replace HO903 := kr HO903 hb; replace BK905 := kb BK905 hb; replace HB := am (below_step bl hb); clear hb; obtain ⟨z17_0, y17_0, z17_1, y17_1, z17_2, y17_2⟩ := cl3 BK905) | (go_at_call 35; (with_reducible refine (impl_RespOk.calls k t900 _ _ t901 t904 t908 _ ?side1 ?side2 A14.out).mono ?_); (case side1 => exact rc HO903); (case side2 => exact (Kd.R_reads' HO903.out).2.1); rintro e w18 ⟨rfl, hb⟩; replace HO903 := kr HO903 hb; replace BK905 := kb BK905 hb; replace HB := am (below_step bl hb); clear hb))
  go_meet
  case rel => exact ⟨_, (((t906.toList != ([] : List UInt8)) != t908)), rs (by first | rfl | (simp; done) | (simp; cases h_ : t906.toList <;> cases t908 <;> first | rfl | simp)), H', ⟨by first | omega | exact Nat.le_refl _⟩, ⟨by (with_reducible repeat (first | apply Kd.R_alloc | apply Kd.R_drewN | apply Kd.R_drew)); exact HO903.out⟩, ⟨by (with_reducible repeat (first | refine blk_drewN ?_ _ | refine blk_drew ?_ | refine blk_alloc ?_ _)); exact BK905.out⟩, ⟨u6HB⟩⟩
 case rest =>
  clear HC6
  try clear c1
  try clear p2
  try clear c3
  try clear c6
  try clear c12
  try clear c13
  try clear c13b0
  try clear c13b1
  try clear z15_0
  try clear z15_1
  try clear z15_2
  try clear z17_0
  try clear z17_1
  try clear z17_2
  try clear z9_0
  try clear z9_1
  try clear z9_2
  try clear y15_0
  try clear y15_1
  try clear y15_2
  try clear y17_0
  try clear y17_1
  try clear y17_2
  try clear y9_0
  try clear y9_1
  try clear y9_2
  obtain ⟨kq, x28_5, rfl, HA, HJ5, HO_906001, BK905, HB⟩ := hcut
  cases kq with
  | zero => exact absurd HA.out (by simp [laws_FnResponses.j0])
  | succ kj5 =>
   have H := HA.out
   clear HA
   simp only [laws_FnResponses.j0] at H
   by_cases c19 : x28_5 = true
   ·subst c19
    rw [if_pos rfl] at H
    exact absurd (Option.some.inj H) (by rw [ht_]; decide)
   replace c19 := Bool.eq_false_iff.mpr c19
   subst c19
   rw [if_neg (show ¬ (false = true) by decide)] at H
   have HC20 := am H
   clear H
   go_upto_if 30 with (fail)
   go_cut [] (fun wc => ∃ (kq : Nat), Aside0 (laws_FnResponses.j1 kq l0 = some r) ∧ Aside0 (kq ≤ kj5) ∧ Aside0 (Kd.R k100 100 wc w.heap.size (fun _ => True) (.slice Ao10 t901.length co10) t901) ∧ Aside0 (wc.heap[gb905]? = some (.cells #[.int .i64 t900, (.slice Ao10 t901.length co10), .string t904] 48 (0, 0))) ∧ Aside0 (Below w.heap.size w wc))
   case first =>
    have H := HC20.out
    clear HC20
    by_cases c21 : t906.toList = ([] : List UInt8)
    ·rw [if_pos c21] at H
     have c21b0 : (t906.toList == ([] : List UInt8)) = true := beq_iff_eq.mpr c21
     have c21b2 : t906.toList.isEmpty = true := by rw [c21]; rfl
     have c21b1 : (t906.toList != ([] : List UInt8)) = false := bne_eq_false_iff_eq.mpr c21
     clear c21
     (first | rw [c21b0] | (simp only [i64_w, i32_w]; rw [c21b0]) | rw [c21b2] | skip)
     have H' := am H
     clear H
     go_wp2
     go_meet
     case rel => exact ⟨_, H', ⟨by have := HJ5.out; first | omega | exact Nat.le_refl _⟩, ⟨by (with_reducible repeat (first | apply Kd.R_alloc | apply Kd.R_drewN | apply Kd.R_drew)); exact HO_906001.out⟩, ⟨by (with_reducible repeat (first | refine blk_drewN ?_ _ | refine blk_drew ?_ | refine blk_alloc ?_ _)); exact BK905.out⟩, ⟨u6HB⟩⟩
    rw [if_neg c21] at H
    have c21b0 : (t906.toList == ([] : List UInt8)) = false := beq_eq_false_iff_ne.mpr c21
    have c21b2 : t906.toList.isEmpty = false := by cases h_ : t906.toList with | nil => exact absurd h_ c21 | cons _ _ => rfl
    have c21b1 : (t906.toList != ([] : List UInt8)) = true := bne_iff_ne.mpr c21
    (first | rw [c21b0] | (simp only [i64_w, i32_w]; rw [c21b0]) | rw [c21b2] | skip)
    revert H
    refine ok4 fun t909 t910 t913 t914 A22 H => ?_
    (try dsimp only at H)
    by_cases c23 : t914 = true
    rotate_left
    ·replace c23 := Bool.eq_false_iff.mpr c23
     subst c23
     rw [if_neg (show ¬ (false = true) by decide)] at H
     exact absurd (Option.some.inj H) (by rw [ht_]; decide)
    subst c23
    rw [if_pos rfl] at H
    by_cases c24 : t909 = t900
    rotate_left
    ·rw [if_neg c24] at H
     have c24b0 : (t909 == t900) = false := beq_eq_false_iff_ne.mpr c24
     have c24b1 : (t909 != t900) = true := bne_iff_ne.mpr c24
     exact absurd (Option.some.inj H) (by rw [ht_]; decide)
    rw [if_pos c24] at H
    have c24b0 : (t909 == t900) = true := beq_iff_eq.mpr c24
    have c24b1 : (t909 != t900) = false := bne_eq_false_iff_eq.mpr c24
    clear c24
    by_cases c25 : t913.toList = t904.toList
    rotate_left
    ·rw [if_neg c25] at H
     have c25b0 : (t913.toList == t904.toList) = false := beq_eq_false_iff_ne.mpr c25
     have c25b1 : (t913.toList != t904.toList) = true := bne_iff_ne.mpr c25
     exact absurd (Option.some.inj H) (by rw [ht_]; decide)
    rw [if_pos c25] at H
    have c25b0 : (t913.toList == t904.toList) = true := beq_iff_eq.mpr c25
    have c25b1 : (t913.toList != t904.toList) = false := bne_eq_false_iff_eq.mpr c25
    clear c25
    revert H
    refine ok1 fun t916 A26 H => ?_
    by_cases c27 : t916 = true
    rotate_left
    ·replace c27 := Bool.eq_false_iff.mpr c27
     subst c27
     rw [if_neg (show ¬ (false = true) by decide)] at H
     exact absurd (Option.some.inj H) (by rw [ht_]; decide)
    subst c27
    rw [if_pos rfl] at H
    have H' := am H
    clear H
    go_wp2_with (first | (refine gl 33 Tryz.func28 #[.string t906] ?_; (with_reducible refine (impl_RespRead.calls kj5 t906 t909 t910 t913 true _ ?side1 ?side2 ?side3 A22.out).mono ?_); (case side1 => exact GLOBE.below HGE.out bl); (case side2 => exact GLOBM.below HGM.out bl); (case side3 => exact GLOBT.below HGT.out bl); rintro e w28 ⟨v911, rfl, ho0, hb⟩; refine ⟨_, rfl, ?_⟩; have HO912 := am (Kd.R_lower (Kd.R_new' ho0 (Kd.R_lt (ro HO_906001))) (below_size bl)); replace HO_906001 := am (Kd.R_elder' (ro HO_906001) (Kd.R_base ho0) hb); replace BK905 := kb BK905 hb; replace HB := am (below_step bl hb); clear hb ho0) | (refine bx 5 #[.int .i64 0, .slice none 0 0, .string (⟨#[]⟩ : ByteArray)] 48 ?_; intro gb915 hg w29 hbox hb; replace HO_906001 := am (Kd.R_below (ro HO_906001) hb); replace HO912 := am (Kd.R_below (ro HO912) hb); have BK915 := am (hbox); have GW915 := am (sz hg : w.heap.size ≤ gb915); have GE915 := am (sz hg : w.heap.size ≤ gb915); replace HB := am (below_step bl hb); have NB905_915 := am (nl hg BK905 : gb905 ≠ gb915); have NB915_905 := am (ng hg BK905 : gb915 ≠ gb905); replace BK905 := kb BK905 hb; clear hb hbox hg; have hnb30 := NB915_905.out; have hnc30 := NB905_915.out; obtain ⟨z31_0, y31_0, z31_1, y31_1, z31_2, y31_2⟩ := cl3 BK915; obtain ⟨Ao32, co32, eo32⟩ := Kd.R_slice HO912.out; subst eo32; obtain ⟨z33_0, y33_0, z33_1, y33_1, z33_2, y33_2⟩ := cl3 BK905) | (go_at_call 24; (with_reducible refine (laws_sameFields.calls kj5 _ _ t910 _ _ t901 true _ ?side1 ?side2 ?side3 ?side4 A26.out).mono ?_); (case side1 => refine (Kd.R_reads' (e := 100) (base := w.heap.size) (ok := fun k_ => (True ∧ some k_ ≠ (.slice Ao10 t901.length co10 : Value).ownBlock)) (n := t910.length) (c := co32) ?_).2.2; exact (by (with_reducible repeat (first | apply Kd.R_alloc | apply Kd.R_drewN | apply Kd.R_drew)); exact (Kd.R_mono (Kd.R_far (p := ⟨gb915, 2, none⟩) (Kd.R_far (p := ⟨gb915, 1, none⟩) (Kd.R_far (p := ⟨gb915, 0, none⟩) (Kd.R_types HO912.out BK915.out (by decide)) (fun _ hk => hk.2) (.int .i64 t909)) (fun _ hk => hk.2) (.slice Ao32 t910.length co32)) (fun _ hk => hk.2) (.string t913)) (fun _ h_ => h_.1)))); (case side2 => exact (Kd.R_reads' HO912.out).2.1); (case side3 => refine (Kd.R_reads' (e := 100) (base := w.heap.size) (ok := fun k_ => (True ∧ some k_ ≠ (.slice Ao32 t910.length co32 : Value).ownBlock)) (n := t901.length) (c := co10) ?_).2.2; exact (by (with_reducible repeat (first | apply Kd.R_alloc | apply Kd.R_drewN | apply Kd.R_drew)); exact (Kd.R_mono (Kd.R_far (p := ⟨gb915, 2, none⟩) (Kd.R_far (p := ⟨gb915, 1, none⟩) (Kd.R_far (p := ⟨gb915, 0, none⟩) (Kd.R_types HO_906001.out BK915.out (by decide)) (fun _ hk => hk.2) (.int .i64 t909)) (fun _ hk => hk.2) (.slice Ao32 t910.length co32)) (fun _ hk => hk.2) (.string t913)) (fun _ h_ => h_.1)))); (case side4 => exact (Kd.R_reads' HO_906001.out).2.1); rintro e w' ⟨rfl, ⟨nd, rfl⟩⟩))
    go_meet
    case rel => exact ⟨_, H', ⟨by have := HJ5.out; first | omega | exact Nat.le_refl _⟩, ⟨rg (Kd.R_types HO_906001.out BK915.out (by decide))⟩, ⟨by (with_reducible repeat (first | refine blk_drewN ?_ _ | refine blk_drew ?_ | refine blk_alloc ?_ _)); refine blk_far ?_ NB905_915.out _; (with_reducible repeat (first | refine blk_drewN ?_ _ | refine blk_drew ?_ | refine blk_alloc ?_ _)); refine blk_far ?_ NB905_915.out _; (with_reducible repeat (first | refine blk_drewN ?_ _ | refine blk_drew ?_ | refine blk_alloc ?_ _)); refine blk_far ?_ NB905_915.out _; (with_reducible repeat (first | refine blk_drewN ?_ _ | refine blk_drew ?_ | refine blk_alloc ?_ _)); exact BK905.out⟩, ⟨u6HB⟩⟩
   case rest =>
    clear HC20
    try clear c1
    try clear c2
    try clear p2
    try clear c3
    try clear c6
    try clear c12
    try clear c13
    try clear c13b0
    try clear c13b1
    try clear c19
    try clear c21
    try clear c21b0
    try clear c21b1
    try clear c23
    try clear c24
    try clear c24b0
    try clear c24b1
    try clear c25
    try clear c25b0
    try clear c25b1
    try clear c27
    try clear c28
    try clear c30
    try clear c32
    try clear c33
    try clear z15_0
    try clear z15_1
    try clear z15_2
    try clear z17_0
    try clear z17_1
    try clear z17_2
    try clear z31_0
    try clear z31_1
    try clear z31_2
    try clear z33_0
    try clear z33_1
    try clear z33_2
    try clear z9_0
    try clear z9_1
    try clear z9_2
    try clear y15_0
    try clear y15_1
    try clear y15_2
    try clear y17_0
    try clear y17_1
    try clear y17_2
    try clear y31_0
    try clear y31_1
    try clear y31_2
    try clear y33_0
    try clear y33_1
    try clear y33_2
    try clear y9_0
    try clear y9_1
    try clear y9_2
    try clear p2
    obtain ⟨kq, HA, HJ19, HO_906001, BK905, HB⟩ := hcut
    cases kq with
    | zero => exact absurd HA.out (by simp [laws_FnResponses.j1])
    | succ kj19 =>
     have H := HA.out
     clear HA
     simp only [laws_FnResponses.j1] at H
     revert H
     refine ok1 fun t917 A34 H => ?_
     revert H
     refine ok4 fun t918 t919 t922 t923 A35 H => ?_
     (try dsimp only at H)
     revert H
     refine ok4 fun t925 t926 t929 t930 A36 H => ?_
     (try dsimp only at H)
     by_cases c37 : (t923 == t930) = true
     rotate_left
     ·rw [if_neg c37] at H
      have c37b0 : (t923 == t930) = false := by simpa using c37
      (try (have c37b1 : decide (t923 = t930) = false := by simpa using c37))
      (try (have c37b2 : (t923 == t930) = false := by simpa using c37))
      (try (have c37b3 : ¬ (t923 = t930) := by simpa using c37))
      clear c37
      exact absurd (Option.some.inj H) (by rw [ht_]; decide)
     rw [if_pos c37] at H
     have c37b0 : (t923 == t930) = true := c37
     (try (have c37b1 : decide (t923 = t930) = true := by simpa using c37))
     (try (have c37b2 : (t923 == t930) = true := by simpa using c37))
     clear c37
     by_cases c38 : t923 = true
     rotate_left
     ·replace c38 := Bool.eq_false_iff.mpr c38
      subst c38
      rw [if_neg (show ¬ (false = true) by decide)] at H
      by_cases c58 : t918 = 0
      rotate_left
      ·rw [if_neg c58] at H
       have c58b0 : (t918 == 0) = false := beq_eq_false_iff_ne.mpr c58
       have c58b1 : (t918 != 0) = true := bne_iff_ne.mpr c58
       exact absurd (Option.some.inj H) (by rw [ht_]; decide)
      rw [if_pos c58] at H
      have c58b0 : (t918 == 0) = true := beq_iff_eq.mpr c58
      have c58b1 : (t918 != 0) = false := bne_eq_false_iff_eq.mpr c58
      clear c58
      obtain rfl := Option.some.inj H
      go_wp2_with (first | (refine gl 61 Tryz.func36 #[.slice A0 l0.length c0] ?_; (with_reducible refine (spec_DrawRespRead.calls kj19 _ _ l0 t917 _ ?side1 ?side2 A34.out).mono ?_); (case side1 => exact cb HR0); (case side2 => exact HC0.out); rintro e w59 ⟨rfl, hb⟩; refine ⟨_, rfl, ?_⟩; replace HO_906001 := kr HO_906001 hb; replace BK905 := kb BK905 hb; replace HB := am (below_step bl hb); clear hb) | (refine gl 64 Tryz.func28 #[.string t917] ?_; (with_reducible refine (impl_RespRead.calls kj19 t917 t918 t919 t922 false _ ?side1 ?side2 ?side3 A35.out).mono ?_); (case side1 => exact GLOBE.below HGE.out bl); (case side2 => exact GLOBM.below HGM.out bl); (case side3 => exact GLOBT.below HGT.out bl); rintro e w60 ⟨v920, rfl, ho0, hb⟩; refine ⟨_, rfl, ?_⟩; have HO921 := am (Kd.R_lower (Kd.R_new' ho0 (Kd.R_lt (ro HO_906001))) (below_size bl)); replace HO_906001 := am (Kd.R_elder' (ro HO_906001) (Kd.R_base ho0) hb); replace BK905 := kb BK905 hb; replace HB := am (below_step bl hb); clear hb ho0) | (refine bx 8 #[.int .i64 0, .slice none 0 0, .string (⟨#[]⟩ : ByteArray)] 48 ?_; intro gb924 hg w61 hbox hb; replace HO_906001 := am (Kd.R_below (ro HO_906001) hb); replace HO921 := am (Kd.R_below (ro HO921) hb); have BK924 := am (hbox); have GW924 := am (sz hg : w.heap.size ≤ gb924); have GE924 := am (sz hg : w.heap.size ≤ gb924); replace HB := am (below_step bl hb); have NB905_924 := am (nl hg BK905 : gb905 ≠ gb924); have NB924_905 := am (ng hg BK905 : gb924 ≠ gb905); replace BK905 := kb BK905 hb; clear hb hbox hg; have hnb62 := NB924_905.out; have hnc62 := NB905_924.out; obtain ⟨z63_0, y63_0, z63_1, y63_1, z63_2, y63_2⟩ := cl3 BK924; obtain ⟨Ao64, co64, eo64⟩ := Kd.R_slice HO921.out; subst eo64) | (refine gl 69 Tryz.func27 #[.string t917] ?_; (with_reducible refine (spec_RespRead.calls kj19 t917 t925 t926 t929 t930 _ A36.out).mono ?_); rintro e w65 ⟨v927, rfl, ho0, hb⟩; refine ⟨_, rfl, ?_⟩; have n0_ := am (Kd.R_elder' (by (with_reducible repeat (first | apply Kd.R_alloc | apply Kd.R_drewN | apply Kd.R_drew)); exact (Kd.R_mono (Kd.R_far (p := ⟨gb924, 2, none⟩) (Kd.R_far (p := ⟨gb924, 1, none⟩) (Kd.R_far (p := ⟨gb924, 0, none⟩) (Kd.R_types HO_906001.out BK924.out (by decide)) (fun _ hk => hk.2) (.int .i64 t918)) (fun _ hk => hk.2) (.slice Ao64 t919.length co64)) (fun _ hk => hk.2) (.string t922)) (fun _ h_ => h_.1))) (Kd.R_base ho0) hb); have n1_ := am (Kd.R_elder' (by (with_reducible repeat (first | apply Kd.R_alloc | apply Kd.R_drewN | apply Kd.R_drew)); exact (Kd.R_mono (Kd.R_far (p := ⟨gb924, 2, none⟩) (Kd.R_far (p := ⟨gb924, 1, none⟩) (Kd.R_far (p := ⟨gb924, 0, none⟩) (Kd.R_types HO921.out BK924.out (by decide)) (fun _ hk => hk.2) (.int .i64 t918)) (fun _ hk => hk.2) (.slice Ao64 t919.length co64)) (fun _ hk => hk.2) (.string t922)) (fun _ h_ => h_.1))) (Kd.R_base ho0) hb); have n2_ := am (Kd.R_lower (Kd.R_new' (Kd.R_new' ho0 (Kd.R_lt (by (with_reducible repeat (first | apply Kd.R_alloc | apply Kd.R_drewN | apply Kd.R_drew)); exact (Kd.R_mono (Kd.R_far (p := ⟨gb924, 2, none⟩) (Kd.R_far (p := ⟨gb924, 1, none⟩) (Kd.R_far (p := ⟨gb924, 0, none⟩) (Kd.R_types HO_906001.out BK924.out (by decide)) (fun _ hk => hk.2) (.int .i64 t918)) (fun _ hk => hk.2) (.slice Ao64 t919.length co64)) (fun _ hk => hk.2) (.string t922)) (fun _ h_ => h_.1))))) (Kd.R_lt (by (with_reducible repeat (first | apply Kd.R_alloc | apply Kd.R_drewN | apply Kd.R_drew)); exact (Kd.R_mono (Kd.R_far (p := ⟨gb924, 2, none⟩) (Kd.R_far (p := ⟨gb924, 1, none⟩) (Kd.R_far (p := ⟨gb924, 0, none⟩) (Kd.R_types HO921.out BK924.out (by decide)) (fun _ hk => hk.2) (.int .i64 t918)) (fun _ hk => hk.2) (.slice Ao64 t919.length co64)) (fun _ hk => hk.2) (.string t922)) (fun _ h_ => h_.1))))) (below_size bl)); have n3_ := kg1 BK905 NB905_924 hb; have n4_ := am (blk_below (g := gb924) (o := .cells #[.int .i64 t918, .slice Ao64 t919.length co64, .string t922] 48 (0, 0)) (pt0 BK924) hb); have n5_ := am (below_step bl hb); clear HO_906001; clear HO921; clear BK905; clear BK924; clear HB; have HO_906001 := n0_; have HO921 := n1_; have HO928 := n2_; have BK905 := n3_; have BK924 := n4_; have HB := n5_; clear n0_ n1_ n2_ n3_ n4_ n5_; clear hb ho0) | (refine bx 10 #[.int .i64 0, .slice none 0 0, .string (⟨#[]⟩ : ByteArray)] 48 ?_; intro gb931 hg w66 hbox hb; replace HO_906001 := am (Kd.R_below (ro HO_906001) hb); replace HO921 := am (Kd.R_below (ro HO921) hb); replace HO928 := am (Kd.R_below (ro HO928) hb); have BK931 := am (hbox); have GW931 := am (sz hg : w.heap.size ≤ gb931); have GE931 := am (sz hg : w.heap.size ≤ gb931); replace HB := am (below_step bl hb); have NB905_931 := am (nl hg BK905 : gb905 ≠ gb931); have NB931_905 := am (ng hg BK905 : gb931 ≠ gb905); replace BK905 := kb BK905 hb; have NB924_931 := am (nl hg BK924 : gb924 ≠ gb931); have NB931_924 := am (ng hg BK924 : gb931 ≠ gb924); replace BK924 := kb BK924 hb; clear hb hbox hg; have hnb67 := NB931_905.out; have hnc67 := NB905_931.out; have hnb68 := NB931_924.out; have hnc68 := NB924_931.out; obtain ⟨z69_0, y69_0, z69_1, y69_1, z69_2, y69_2⟩ := cl3 BK931; obtain ⟨Ao70, co70, eo70⟩ := Kd.R_slice HO928.out; subst eo70; obtain ⟨z71_0, y71_0, z71_1, y71_1, z71_2, y71_2⟩ := cl3 BK924))
      go_ret
      exact ⟨rf, bl⟩
     subst c38
     rw [if_pos rfl] at H
     revert H
     refine ok1 fun t932 A39 H => ?_
     by_cases c40 : t932.toList = t917.toList
     rotate_left
     ·rw [if_neg c40] at H
      have c40b0 : (t932.toList == t917.toList) = false := beq_eq_false_iff_ne.mpr c40
      have c40b1 : (t932.toList != t917.toList) = true := bne_iff_ne.mpr c40
      exact absurd (Option.some.inj H) (by rw [ht_]; decide)
     rw [if_pos c40] at H
     have c40b0 : (t932.toList == t917.toList) = true := beq_iff_eq.mpr c40
     have c40b1 : (t932.toList != t917.toList) = false := bne_eq_false_iff_eq.mpr c40
     clear c40
     revert H
     refine ok1 fun t933 A41 H => ?_
     obtain rfl := Option.some.inj H
     go_wp2_with (first | (refine gl 61 Tryz.func36 #[.slice A0 l0.length c0] ?_; (with_reducible refine (spec_DrawRespRead.calls kj19 _ _ l0 t917 _ ?side1 ?side2 A34.out).mono ?_); (case side1 => exact cb HR0); (case side2 => exact HC0.out); rintro e w42 ⟨rfl, hb⟩; refine ⟨_, rfl, ?_⟩; replace HO_906001 := kr HO_906001 hb; replace BK905 := kb BK905 hb; replace HB := am (below_step bl hb); clear hb) | (refine gl 64 Tryz.func28 #[.string t917] ?_; (with_reducible refine (impl_RespRead.calls kj19 t917 t918 t919 t922 true _ ?side1 ?side2 ?side3 A35.out).mono ?_); (case side1 => exact GLOBE.below HGE.out bl); (case side2 => exact GLOBM.below HGM.out bl); (case side3 => exact GLOBT.below HGT.out bl); rintro e w43 ⟨v920, rfl, ho0, hb⟩; refine ⟨_, rfl, ?_⟩; have HO921 := am (Kd.R_lower (Kd.R_new' ho0 (Kd.R_lt (ro HO_906001))) (below_size bl)); replace HO_906001 := am (Kd.R_elder' (ro HO_906001) (Kd.R_base ho0) hb); replace BK905 := kb BK905 hb; replace HB := am (below_step bl hb); clear hb ho0) | (refine bx 8 #[.int .i64 0, .slice none 0 0, .string (⟨#[]⟩ : ByteArray)] 48 ?_; intro gb924 hg w44 hbox hb; replace HO_906001 := am (Kd.R_below (ro HO_906001) hb); replace HO921 := am (Kd.R_below (ro HO921) hb); have BK924 := am (hbox); have GW924 := am (sz hg : w.heap.size ≤ gb924); have GE924 := am (sz hg : w.heap.size ≤ gb924); replace HB := am (below_step bl hb); have NB905_924 := am (nl hg BK905 : gb905 ≠ gb924); have NB924_905 := am (ng hg BK905 : gb924 ≠ gb905); replace BK905 := kb BK905 hb; clear hb hbox hg; have hnb45 := NB924_905.out; have hnc45 := NB905_924.out; obtain ⟨z46_0, y46_0, z46_1, y46_1, z46_2, y46_2⟩ := cl3 BK924; obtain ⟨Ao47, co47, eo47⟩ := Kd.R_slice HO921.out; subst eo47) | (refine gl 69 Tryz.func27 #[.string t917] ?_; (with_reducible refine (spec_RespRead.calls kj19 t917 t925 t926 t929 t930 _ A36.out).mono ?_); rintro e w48 ⟨v927, rfl, ho0, hb⟩; refine ⟨_, rfl, ?_⟩; have n0_ := am (Kd.R_elder' (by (with_reducible repeat (first | apply Kd.R_alloc | apply Kd.R_drewN | apply Kd.R_drew)); exact (Kd.R_mono (Kd.R_far (p := ⟨gb924, 2, none⟩) (Kd.R_far (p := ⟨gb924, 1, none⟩) (Kd.R_far (p := ⟨gb924, 0, none⟩) (Kd.R_types HO_906001.out BK924.out (by decide)) (fun _ hk => hk.2) (.int .i64 t918)) (fun _ hk => hk.2) (.slice Ao47 t919.length co47)) (fun _ hk => hk.2) (.string t922)) (fun _ h_ => h_.1))) (Kd.R_base ho0) hb); have n1_ := am (Kd.R_elder' (by (with_reducible repeat (first | apply Kd.R_alloc | apply Kd.R_drewN | apply Kd.R_drew)); exact (Kd.R_mono (Kd.R_far (p := ⟨gb924, 2, none⟩) (Kd.R_far (p := ⟨gb924, 1, none⟩) (Kd.R_far (p := ⟨gb924, 0, none⟩) (Kd.R_types HO921.out BK924.out (by decide)) (fun _ hk => hk.2) (.int .i64 t918)) (fun _ hk => hk.2) (.slice Ao47 t919.length co47)) (fun _ hk => hk.2) (.string t922)) (fun _ h_ => h_.1))) (Kd.R_base ho0) hb); have n2_ := am (Kd.R_lower (Kd.R_new' (Kd.R_new' ho0 (Kd.R_lt (by (with_reducible repeat (first | apply Kd.R_alloc | apply Kd.R_drewN | apply Kd.R_drew)); exact (Kd.R_mono (Kd.R_far (p := ⟨gb924, 2, none⟩) (Kd.R_far (p := ⟨gb924, 1, none⟩) (Kd.R_far (p := ⟨gb924, 0, none⟩) (Kd.R_types HO_906001.out BK924.out (by decide)) (fun _ hk => hk.2) (.int .i64 t918)) (fun _ hk => hk.2) (.slice Ao47 t919.length co47)) (fun _ hk => hk.2) (.string t922)) (fun _ h_ => h_.1))))) (Kd.R_lt (by (with_reducible repeat (first | apply Kd.R_alloc | apply Kd.R_drewN | apply Kd.R_drew)); exact (Kd.R_mono (Kd.R_far (p := ⟨gb924, 2, none⟩) (Kd.R_far (p := ⟨gb924, 1, none⟩) (Kd.R_far (p := ⟨gb924, 0, none⟩) (Kd.R_types HO921.out BK924.out (by decide)) (fun _ hk => hk.2) (.int .i64 t918)) (fun _ hk => hk.2) (.slice Ao47 t919.length co47)) (fun _ hk => hk.2) (.string t922)) (fun _ h_ => h_.1))))) (below_size bl)); have n3_ := kg1 BK905 NB905_924 hb; have n4_ := am (blk_below (g := gb924) (o := .cells #[.int .i64 t918, .slice Ao47 t919.length co47, .string t922] 48 (0, 0)) (pt0 BK924) hb); have n5_ := am (below_step bl hb); clear HO_906001; clear HO921; clear BK905; clear BK924; clear HB; have HO_906001 := n0_; have HO921 := n1_; have HO928 := n2_; have BK905 := n3_; have BK924 := n4_; have HB := n5_; clear n0_ n1_ n2_ n3_ n4_ n5_; clear hb ho0) | (refine bx 10 #[.int .i64 0, .slice none 0 0, .string (⟨#[]⟩ : ByteArray)] 48 ?_; intro gb931 hg w49 hbox hb; replace HO_906001 := am (Kd.R_below (ro HO_906001) hb); replace HO921 := am (Kd.R_below (ro HO921) hb); replace HO928 := am (Kd.R_below (ro HO928) hb); have BK931 := am (hbox); have GW931 := am (sz hg : w.heap.size ≤ gb931); have GE931 := am (sz hg : w.heap.size ≤ gb931); replace HB := am (below_step bl hb); have NB905_931 := am (nl hg BK905 : gb905 ≠ gb931); have NB931_905 := am (ng hg BK905 : gb931 ≠ gb905); replace BK905 := kb BK905 hb; have NB924_931 := am (nl hg BK924 : gb924 ≠ gb931); have NB931_924 := am (ng hg BK924 : gb931 ≠ gb924); replace BK924 := kb BK924 hb; clear hb hbox hg; have hnb50 := NB931_905.out; have hnc50 := NB905_931.out; have hnb51 := NB931_924.out; have hnc51 := NB924_931.out; obtain ⟨z52_0, y52_0, z52_1, y52_1, z52_2, y52_2⟩ := cl3 BK931; obtain ⟨Ao53, co53, eo53⟩ := Kd.R_slice HO928.out; subst eo53; obtain ⟨z54_0, y54_0, z54_1, y54_1, z54_2, y54_2⟩ := cl3 BK924) | (go_at_call 33; (with_reducible refine (impl_RespText.calls kj19 t918 _ _ t919 t922 t932 _ ?side1 ?side2 ?side3 A39.out).mono ?_); (case side1 => exact GLOBT.below HGT.out bl); (case side2 => refine (Kd.R_reads' (e := 100) (base := w.heap.size) (ok := fun k_ => ((True ∧ some k_ ≠ (.slice Ao10 t901.length co10 : Value).ownBlock) ∧ some k_ ≠ (.slice Ao53 t926.length co53 : Value).ownBlock)) (n := t919.length) (c := co47) ?_).2.2; exact (by (with_reducible repeat (first | apply Kd.R_alloc | apply Kd.R_drewN | apply Kd.R_drew)); exact (Kd.R_mono (Kd.R_far (p := ⟨gb931, 2, none⟩) (Kd.R_far (p := ⟨gb931, 1, none⟩) (Kd.R_far (p := ⟨gb931, 0, none⟩) (Kd.R_types HO921.out BK931.out (by decide)) (fun _ hk => hk.2) (.int .i64 t925)) (fun _ hk => hk.2) (.slice Ao53 t926.length co53)) (fun _ hk => hk.2) (.string t929)) (fun _ h_ => h_.1)))); (case side3 => exact (Kd.R_reads' HO921.out).2.1); rintro e w55 ⟨rfl, hb⟩; have n0_ := am (Kd.R_below (by (with_reducible repeat (first | apply Kd.R_alloc | apply Kd.R_drewN | apply Kd.R_drew)); exact (Kd.R_mono (Kd.R_far (p := ⟨gb931, 2, none⟩) (Kd.R_far (p := ⟨gb931, 1, none⟩) (Kd.R_far (p := ⟨gb931, 0, none⟩) (Kd.R_types HO_906001.out BK931.out (by decide)) (fun _ hk => hk.2) (.int .i64 t925)) (fun _ hk => hk.2) (.slice Ao53 t926.length co53)) (fun _ hk => hk.2) (.string t929)) (fun _ h_ => h_.1))) hb); have n1_ := am (Kd.R_below (by (with_reducible repeat (first | apply Kd.R_alloc | apply Kd.R_drewN | apply Kd.R_drew)); exact (Kd.R_mono (Kd.R_far (p := ⟨gb931, 2, none⟩) (Kd.R_far (p := ⟨gb931, 1, none⟩) (Kd.R_far (p := ⟨gb931, 0, none⟩) (Kd.R_types HO921.out BK931.out (by decide)) (fun _ hk => hk.2) (.int .i64 t925)) (fun _ hk => hk.2) (.slice Ao53 t926.length co53)) (fun _ hk => hk.2) (.string t929)) (fun _ h_ => h_.1))) hb); have n2_ := am (Kd.R_below (by (with_reducible repeat (first | apply Kd.R_alloc | apply Kd.R_drewN | apply Kd.R_drew)); exact (Kd.R_mono (Kd.R_far (p := ⟨gb931, 2, none⟩) (Kd.R_far (p := ⟨gb931, 1, none⟩) (Kd.R_far (p := ⟨gb931, 0, none⟩) (Kd.R_types HO928.out BK931.out (by decide)) (fun _ hk => hk.2) (.int .i64 t925)) (fun _ hk => hk.2) (.slice Ao53 t926.length co53)) (fun _ hk => hk.2) (.string t929)) (fun _ h_ => h_.1))) hb); have n3_ := kg1 BK905 NB905_931 hb; have n4_ := kg1 BK924 NB924_931 hb; have n5_ := am (blk_below (g := gb931) (o := .cells #[.int .i64 t925, .slice Ao53 t926.length co53, .string t929] 48 (0, 0)) (pt0 BK931) hb); have n6_ := am (below_step bl hb); clear HO_906001; clear HO921; clear HO928; clear BK905; clear BK924; clear BK931; clear HB; have HO_906001 := n0_; have HO921 := n1_; have HO928 := n2_; have BK905 := n3_; have BK924 := n4_; have BK931 := n5_; have HB := n6_; clear n0_ n1_ n2_ n3_ n4_ n5_ n6_; clear hb; obtain ⟨z56_0, y56_0, z56_1, y56_1, z56_2, y56_2⟩ := cl3 BK924) | (go_at_call 35; (with_reducible refine (impl_RespOk.calls kj19 t918 _ _ t919 t922 t933 _ ?side1 ?side2 A41.out).mono ?_); (case side1 => exact rc HO921); (case side2 => exact (Kd.R_reads' HO921.out).2.1); rintro e w57 ⟨rfl, hb⟩; replace HO_906001 := kr HO_906001 hb; replace HO921 := kr HO921 hb; replace HO928 := kr HO928 hb; replace BK905 := kb BK905 hb; replace BK924 := kb BK924 hb; replace BK931 := kb BK931 hb; replace HB := am (below_step bl hb); clear hb))
     go_ret
     exact ⟨rf, bl⟩

end Go.Proofs.YtnmanegjgidgcaaGreatDoor.All
