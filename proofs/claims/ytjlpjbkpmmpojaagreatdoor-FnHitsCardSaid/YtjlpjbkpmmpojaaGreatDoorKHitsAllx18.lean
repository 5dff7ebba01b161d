-- Written by a program of this session (wip/tools/hprint.py) out of the translation. Lean checks it.
import Derived.Test.YtjlpjbkpmmpojaaGreatDoorKHitsAllx0
import Derived.Test.YtjlpjbkpmmpojaaGreatDoorKHitsAllx2
import Derived.Test.YtjlpjbkpmmpojaaGreatDoorKHitsAllx13
import Derived.Test.YtjlpjbkpmmpojaaGreatDoorKHitsAllx16
import Derived.Test.YtjlpjbkpmmpojaaGreatDoorKHitsAllx17
namespace Go.Proofs.YtjlpjbkpmmpojaaGreatDoor.All
open Go.RowKit Go.Proofs.YtjlpjbkpmmpojaaGreatDoorW.PrintWords Go.Proofs.YtjlpjbkpmmpojaaGreatDoorW.PrintLast Go.Proofs.YtjlpjbkpmmpojaaGreatDoorW.PrintMore
attribute [local go_sem] max2_int min2_int max_two min_two max_three min_three max_four min_four  -- for this text's walks alone
set_option linter.unusedVariables false
set_option linter.unusedSimpArgs false

/-! ### laws_FnHits: function 3 -/
theorem laws_FnHits.gx {P : Program} {ops : Array Oper} {oi : Oper} {a : Act} {w : World} {Q : Exit → Act → World → Prop} {rest : List Oper} (n : Nat) (_hd : oi.dst = some n) (_hg : oi.guard = none) (h : wpList P ops Q (oi :: rest) a w) : wpList P ops Q (oi :: rest) a w := h
theorem u3HB {p : Prop} (h : p := by repeat (first | (with_reducible first | exact HB.out | apply below_alloc | apply pw_below_drewN | apply below_drew1 | refine below_set ?_ GE890.out | refine below_set ?_ GE891.out | refine below_set ?_ GE912.out | refine below_set ?_ GE917.out) | exact HB.out)) : p := h
mutual
def laws_FnHits.j0 : Nat → List Int → Bool → Bool → Int → ByteArray → ByteArray → Int → ByteArray → List ByteArray → List ByteArray → Int → List (S116) → ByteArray → Int → Option (Bool)
 | 0, _, _, _, _, _, _, _, _, _, _, _, _, _, _ => none
 | k + 1, x0, x5, x47, x891000, x891001, x891002, x891003, x892000, x892001, x892002, x892003, x892004, x892005, x892006 => if x47 = true then (some false) else ((spec_DrawHitsAny.f k x0).bind fun bt896 => ((impl_HitsAny.f k bt896.1 bt896.2.1 bt896.2.2.1 bt896.2.2.2.1 bt896.2.2.2.2.1 bt896.2.2.2.2.2.1 bt896.2.2.2.2.2.2.1 bt896.2.2.2.2.2.2.2).bind fun t913 => ((spec_HitsAny.f k bt896.1 bt896.2.1 bt896.2.2.1 bt896.2.2.2.1 bt896.2.2.2.2.1 bt896.2.2.2.2.2.1 bt896.2.2.2.2.2.2.1 bt896.2.2.2.2.2.2.2).bind fun t914 => (if (t913 != t914) = true then (some false) else (laws_FnHits.l0 k x5 bt896.1 t913 false 0 x891000 x891001 x891002 x891003 x892000 x892001 x892002 x892003 x892004 x892005 x892006 bt896.2.1 bt896.2.2.1 bt896.2.2.2.1 bt896.2.2.2.2.1 bt896.2.2.2.2.2.1 bt896.2.2.2.2.2.2.1 bt896.2.2.2.2.2.2.2)))))
def laws_FnHits.l0 : Nat → Bool → List (S25) → Bool → Bool → Int → Int → ByteArray → ByteArray → Int → ByteArray → List ByteArray → List ByteArray → Int → List (S116) → ByteArray → Int → ByteArray → List ByteArray → List ByteArray → Int → List (S116) → ByteArray → Int → Option (Bool)
 | 0, _, _, _, _, _, _, _, _, _, _, _, _, _, _, _, _, _, _, _, _, _, _, _ => none
 | k + 1, x5, x6, x8, x9, x10, x891000, x891001, x891002, x891003, x892000, x892001, x892002, x892003, x892004, x892005, x892006, x913000, x913001, x913002, x913003, x913004, x913005, x913006 => if x10 < (x6.length : Int) then (if x9 = true then (laws_FnHits.l0 k x5 x6 x8 true (wrap64 (x10 + 1)) x891000 x891001 x891002 x891003 x892000 x892001 x892002 x892003 x892004 x892005 x892006 x913000 x913001 x913002 x913003 x913004 x913005 x913006) else (if 0 ≤ x10 then ((impl_Hits.f k ((rd_T25 x6 x10).f0) ((rd_T25 x6 x10).f1) ((rd_T25 x6 x10).f2) ((rd_T25 x6 x10).f3) x913000 x913001 x913002 x913003 x913004 x913005 x913006).bind fun t916 => (laws_FnHits.l0 k x5 x6 x8 t916 (wrap64 (x10 + 1)) x891000 x891001 x891002 x891003 x892000 x892001 x892002 x892003 x892004 x892005 x892006 x913000 x913001 x913002 x913003 x913004 x913005 x913006)) else (none))) else (if x891000 = 1 then (laws_FnHits.j2 k x5 x8 x9 x5 x891000 x891001 x891002 x891003 x892000 x892001 x892002 x892003 x892004 x892005 x892006 x891000 x891001 x891002 1000000) else (laws_FnHits.j2 k x5 x8 x9 false x891000 x891001 x891002 x891003 x892000 x892001 x892002 x892003 x892004 x892005 x892006 x891000 x891001 x891002 1000000))
def laws_FnHits.j2 : Nat → Bool → Bool → Bool → Bool → Int → ByteArray → ByteArray → Int → ByteArray → List ByteArray → List ByteArray → Int → List (S116) → ByteArray → Int → Int → ByteArray → ByteArray → Int → Option (Bool)
 | 0, _, _, _, _, _, _, _, _, _, _, _, _, _, _, _, _, _, _, _ => none
 | k + 1, x5, x8, x9, x83, x891000, x891001, x891002, x891003, x892000, x892001, x892002, x892003, x892004, x892005, x892006, x918000, x918001, x918002, x918003 => if x83 = true then ((impl_Hits.f k 2 x891001 x891002 x891003 x892000 x892001 x892002 x892003 x892004 x892005 x892006).bind fun t919 => (if t919 = true then (if (x8 == x9) = true then (if x5 = true then ((impl_Hits.f k x918000 x918001 x918002 x918003 x892000 x892001 x892002 x892003 x892004 x892005 x892006).bind fun t920 => (some t920)) else (some true)) else (some false)) else (some false))) else (if (x8 == x9) = true then (if x5 = true then ((impl_Hits.f k x918000 x918001 x918002 x918003 x892000 x892001 x892002 x892003 x892004 x892005 x892006).bind fun t921 => (some t921)) else (some true)) else (some false))
end
def laws_FnHits.f (k : Nat) (l0 : List Int) : Option (Bool) := (laws_big.f l0).bind fun t872 => (if t872 = true then (some true) else ((spec_DrawHits.f k l0).bind fun bt873 => ((impl_Hits.f k bt873.1 bt873.2.1 bt873.2.2.1 bt873.2.2.2.1 bt873.2.2.2.2.1 bt873.2.2.2.2.2.1 bt873.2.2.2.2.2.2.1 bt873.2.2.2.2.2.2.2.1 bt873.2.2.2.2.2.2.2.2.1 bt873.2.2.2.2.2.2.2.2.2.1 bt873.2.2.2.2.2.2.2.2.2.2).bind fun t892 => ((spec_Hits.f k bt873.1 bt873.2.1 bt873.2.2.1 bt873.2.2.2.1 bt873.2.2.2.2.1 bt873.2.2.2.2.2.1 bt873.2.2.2.2.2.2.1 bt873.2.2.2.2.2.2.2.1 bt873.2.2.2.2.2.2.2.2.1 bt873.2.2.2.2.2.2.2.2.2.1 bt873.2.2.2.2.2.2.2.2.2.2).bind fun t893 => (if (t892 != t893) = true then (laws_FnHits.j0 k l0 t892 true bt873.1 bt873.2.1 bt873.2.2.1 bt873.2.2.2.1 bt873.2.2.2.2.1 bt873.2.2.2.2.2.1 bt873.2.2.2.2.2.2.1 bt873.2.2.2.2.2.2.2.1 bt873.2.2.2.2.2.2.2.2.1 bt873.2.2.2.2.2.2.2.2.2.1 bt873.2.2.2.2.2.2.2.2.2.2) else (if t892 = true then (if bt873.2.2.2.2.2.2.2.2.2.2 > bt873.2.2.2.1 then (laws_FnHits.j0 k l0 t892 true bt873.1 bt873.2.1 bt873.2.2.1 bt873.2.2.2.1 bt873.2.2.2.2.1 bt873.2.2.2.2.2.1 bt873.2.2.2.2.2.2.1 bt873.2.2.2.2.2.2.2.1 bt873.2.2.2.2.2.2.2.2.1 bt873.2.2.2.2.2.2.2.2.2.1 bt873.2.2.2.2.2.2.2.2.2.2) else ((impl_BanOk.f k bt873.1 bt873.2.1 bt873.2.2.1 bt873.2.2.2.1).bind fun t894 => (if t894 = true then ((impl_ObjOk.f k bt873.2.2.2.2.1 bt873.2.2.2.2.2.1 bt873.2.2.2.2.2.2.1 bt873.2.2.2.2.2.2.2.1 bt873.2.2.2.2.2.2.2.2.1 bt873.2.2.2.2.2.2.2.2.2.1 bt873.2.2.2.2.2.2.2.2.2.2).bind fun t895 => (laws_FnHits.j0 k l0 t892 (!t895) bt873.1 bt873.2.1 bt873.2.2.1 bt873.2.2.2.1 bt873.2.2.2.2.1 bt873.2.2.2.2.2.1 bt873.2.2.2.2.2.2.1 bt873.2.2.2.2.2.2.2.1 bt873.2.2.2.2.2.2.2.2.1 bt873.2.2.2.2.2.2.2.2.2.1 bt873.2.2.2.2.2.2.2.2.2.2)) else (laws_FnHits.j0 k l0 t892 true bt873.1 bt873.2.1 bt873.2.2.1 bt873.2.2.2.1 bt873.2.2.2.2.1 bt873.2.2.2.2.2.1 bt873.2.2.2.2.2.2.1 bt873.2.2.2.2.2.2.2.1 bt873.2.2.2.2.2.2.2.2.1 bt873.2.2.2.2.2.2.2.2.2.1 bt873.2.2.2.2.2.2.2.2.2.2)))) else (laws_FnHits.j0 k l0 t892 false bt873.1 bt873.2.1 bt873.2.2.1 bt873.2.2.2.1 bt873.2.2.2.2.1 bt873.2.2.2.2.2.1 bt873.2.2.2.2.2.2.1 bt873.2.2.2.2.2.2.2.1 bt873.2.2.2.2.2.2.2.2.1 bt873.2.2.2.2.2.2.2.2.2.1 bt873.2.2.2.2.2.2.2.2.2.2)))))))
def laws_FnHits.T15 : Bool × List (List Nat × List Nat) := (true, [([], []), ([0], [0]), ([1], [1]), ([1], [1]), ([2, 3, 1], [1, 2, 3]), ([4, 1], [1, 4]), ([1], [1]), ([5, 6, 1, 1], [1, 5, 6]), ([1, 7], [1, 7]), ([8, 7, 0, 1, 2, 3, 4, 5, 6, 7, 8], [0, 8])])
def laws_FnHits.B15 : List Nat := [0, 1, 3, 3, 15, 31, 3, 127, 255, 511]
theorem laws_FnHits.tab15 : rtab .any (opsOf Tryz.f3 15) = laws_FnHits.T15 := by kernel_rfl
theorem laws_FnHits.bits15 : waitsOk laws_FnHits.T15.2 laws_FnHits.B15 = true := by kernel_rfl
set_option maxHeartbeats 8000000 in
set_option maxRecDepth 100000 in
theorem laws_FnHits.calls (k : Nat) (A0 : Option Addr) (c0 : Nat) (l0 : List Int) (r : Bool) (w : World) (hGM : GLOBM w) (hr0 : Kd.C (Kd.int .u8) w A0 l0.length l0) (hc0 : l0.length ≤ c0) (ht_ : r = true) (h : laws_FnHits.f k l0 = some r) :
  Calls Tryz.prog 3 #[.slice A0 l0.length c0] w fun e w' => e = .returned (.bool r) ∧ Below w.heap.size w w' := by
 have hu25 := Tryz.underlying25
 have hu31 := Tryz.underlying31
 have HR0 := am hr0
 have HC0 := am hc0
 clear hr0 hc0
 have HGM := am hGM
 clear hGM
 have HB := am (Below.refl w.heap.size w)
 unfold laws_FnHits.f at h
 have H := h
 clear h
 revert H
 refine ok1 fun t872 A2 H => ?_
 by_cases c3 : t872 = true
 ·subst c3
  rw [if_pos rfl] at H
  obtain rfl := Option.some.inj H
  go_enter Tryz.func3, Tryz.ntmps3
  go_wp2_with (first | ((with_reducible refine laws_FnHits.gx 14 rfl rfl ?_); refine gl 14 Tryz.func10 #[.slice A0 l0.length c0] ?_; (with_reducible refine (laws_big.calls _ _ l0 true _ ?side1 ?side2 A2.out).mono ?_); (case side1 => exact cc HR0); (case side2 => exact HC0.out); rintro e w' ⟨rfl, ⟨nd, rfl⟩⟩; refine ⟨_, rfl, ?_⟩))
  go_ret
  exact ⟨rf, bl⟩
 replace c3 := Bool.eq_false_iff.mpr c3
 subst c3
 rw [if_neg (show ¬ (false = true) by decide)] at H
 replace H := ob H
 obtain ⟨⟨t873, t874, t875, t876, t877, t878, t881, t884, t885, t888, t889⟩, A40, H⟩ := H
 replace H : ((impl_Hits.f k t873 t874 t875 t876 t877 t878 t881 t884 t885 t888 t889).bind fun t892 => ((spec_Hits.f k t873 t874 t875 t876 t877 t878 t881 t884 t885 t888 t889).bind fun t893 => (if (t892 != t893) = true then (laws_FnHits.j0 k l0 t892 true t873 t874 t875 t876 t877 t878 t881 t884 t885 t888 t889) else (if t892 = true then (if t889 > t876 then (laws_FnHits.j0 k l0 t892 true t873 t874 t875 t876 t877 t878 t881 t884 t885 t888 t889) else ((impl_BanOk.f k t873 t874 t875 t876).bind fun t894 => (if t894 = true then ((impl_ObjOk.f k t877 t878 t881 t884 t885 t888 t889).bind fun t895 => (laws_FnHits.j0 k l0 t892 (!t895) t873 t874 t875 t876 t877 t878 t881 t884 t885 t888 t889)) else (laws_FnHits.j0 k l0 t892 true t873 t874 t875 t876 t877 t878 t881 t884 t885 t888 t889)))) else (laws_FnHits.j0 k l0 t892 false t873 t874 t875 t876 t877 t878 t881 t884 t885 t888 t889))))) = some r := H
 have A4 := am A40
 clear A40
 revert H
 refine ok1 fun t892 A5 H => ?_
 have HC6 := am H
 clear H
 go_enter Tryz.func3, Tryz.ntmps3
 go_upto_region 5 with (first | ((with_reducible refine laws_FnHits.gx 14 rfl rfl ?_); refine gl 14 Tryz.func10 #[.slice A0 l0.length c0] ?_; (with_reducible refine (laws_big.calls _ _ l0 false _ ?side1 ?side2 A2.out).mono ?_); (case side1 => exact cc HR0); (case side2 => exact HC0.out); rintro e w' ⟨rfl, ⟨nd, rfl⟩⟩; refine ⟨_, rfl, ?_⟩) | ((with_reducible refine laws_FnHits.gx 17 rfl rfl ?_); refine gl 17 Tryz.func11 #[.slice A0 l0.length c0] ?_; (with_reducible refine (spec_DrawHits.calls k _ _ l0 t873 t874 t875 t876 t877 t878 t881 t884 t885 t888 t889 _ ?side1 ?side2 A4.out).mono ?_); (case side1 => exact cc HR0); (case side2 => exact HC0.out); rintro e w7 ⟨v879, v882, v886, rfl, ho0, ho1, ho2, hb⟩; refine ⟨_, rfl, ?_⟩; have HO880 := am (Kd.R_lower ho0 (below_size bl)); have HO883 := am (Kd.R_lower ho1 (below_size bl)); have HO887 := am (Kd.R_lower ho2 (below_size bl)); replace HB := am (below_step bl hb); clear hb ho0 ho1 ho2) | ((with_reducible refine laws_FnHits.gx 3 rfl rfl ?_); refine bx 3 #[.int .i64 0, .string (⟨#[]⟩ : ByteArray), .string (⟨#[]⟩ : ByteArray), .int .i64 0] 25 ?_; intro gb890 hg w8 hbox hb; replace HO880 := am (Kd.R_below (ro HO880) hb); replace HO883 := am (Kd.R_below (ro HO883) hb); replace HO887 := am (Kd.R_below (ro HO887) hb); have BK890 := am (hbox); have GW890 := am (sz hg : w.heap.size ≤ gb890); have GE890 := am (sz hg : w.heap.size ≤ gb890); replace HB := am (below_step bl hb); clear hb hbox hg) | ((with_reducible refine laws_FnHits.gx 4 rfl rfl ?_); refine bx 4 #[.string (⟨#[]⟩ : ByteArray), .slice none 0 0, .slice none 0 0, .int .i64 0, .slice none 0 0, .string (⟨#[]⟩ : ByteArray), .int .i64 0] 31 ?_; intro gb891 hg w9 hbox hb; replace HO880 := am (Kd.R_below (ro HO880) hb); replace HO883 := am (Kd.R_below (ro HO883) hb); replace HO887 := am (Kd.R_below (ro HO887) hb); have BK891 := am (hbox); have GW891 := am (sz hg : w.heap.size ≤ gb891); have GE891 := am (sz hg : w.heap.size ≤ gb891); replace HB := am (below_step bl hb); have NB890_891 := am (nl hg BK890 : gb890 ≠ gb891); have NB891_890 := am (ng hg BK890 : gb891 ≠ gb890); replace BK890 := kb BK890 hb; clear hb hbox hg; have hnb10 := NB890_891.out; have hnc10 := NB891_890.out; obtain ⟨z11_0, y11_0, z11_1, y11_1, z11_2, y11_2, z11_3, y11_3⟩ := cl4 BK890; obtain ⟨z12_0, y12_0, z12_1, y12_1, z12_2, y12_2, z12_3, y12_3, z12_4, y12_4, z12_5, y12_5, z12_6, y12_6⟩ := cl7 BK891; obtain ⟨Ao13, co13, eo13⟩ := Kd.R_slice HO880.out; subst eo13; obtain ⟨Ao14, co14, eo14⟩ := Kd.R_slice HO883.out; subst eo14; obtain ⟨Ao15, co15, eo15⟩ := Kd.R_slice HO887.out; subst eo15) | ((with_reducible refine laws_FnHits.gx 22 rfl rfl ?_); refine gl 22 Tryz.func12 #[.agg #[.int .i64 t873, .string t874, .string t875, .int .i64 t876], .agg #[.string t877, .slice Ao13 t878.length co13, .slice Ao14 t881.length co14, .int .i64 t884, .slice Ao15 t885.length co15, .string t888, .int .i64 t889]] ?_; (with_reducible refine (impl_Hits.calls k t873 t874 t875 t876 t877 _ _ t878 _ _ t881 t884 _ _ t885 t888 t889 t892 _ ?side1 ?side2 ?side3 ?side4 ?side5 ?side6 ?side7 A5.out).mono ?_); (case side1 => exact GLOBM.below HGM.out bl); (case side2 => refine (Kd.R_reads' (e := 9) (base := w.heap.size) (ok := fun k_ => some k_ ≠ (.slice Ao14 t881.length co14 : Value).ownBlock) (n := t878.length) (c := co13) ?_).2.2; exact (by (with_reducible repeat (first | apply Kd.R_alloc | apply Kd.R_drewN | apply Kd.R_drew)); exact (Kd.R_mono (rj (Kd.R_types (Kd.R_types HO880.out BK890.out (by decide)) BK891.out (by decide)) (fun _ h_ => h_.1)) (fun _ h_ => h_.1)))); (case side3 => exact (Kd.R_reads' HO880.out).2.1); (case side4 => refine (Kd.R_reads' (e := 9) (base := w.heap.size) (ok := fun k_ => some k_ ≠ (.slice Ao13 t878.length co13 : Value).ownBlock) (n := t881.length) (c := co14) ?_).2.2; exact (by (with_reducible repeat (first | apply Kd.R_alloc | apply Kd.R_drewN | apply Kd.R_drew)); exact (Kd.R_mono (rj (Kd.R_types (Kd.R_types HO883.out BK890.out (by decide)) BK891.out (by decide)) (fun _ h_ => h_.1)) (fun _ h_ => h_.1)))); (case side5 => exact (Kd.R_reads' HO883.out).2.1); (case side6 => refine (Kd.R_reads' (e := 116) (base := w.heap.size) (ok := fun k_ => True) (n := t885.length) (c := co15) ?_).2.2; exact (by (with_reducible repeat (first | apply Kd.R_alloc | apply Kd.R_drewN | apply Kd.R_drew)); exact (Kd.R_mono (rj (Kd.R_types (Kd.R_types HO887.out BK890.out (by decide)) BK891.out (by decide)) (fun _ h_ => h_.1)) (fun _ h_ => h_.1)))); (case side7 => exact (Kd.R_reads' HO887.out).2.1); rintro e w16 ⟨rfl, hb⟩; refine ⟨_, rfl, ?_⟩; have n0_ := am (Kd.R_below (by (with_reducible repeat (first | apply Kd.R_alloc | apply Kd.R_drewN | apply Kd.R_drew)); exact (Kd.R_mono (rj (Kd.R_types (Kd.R_types HO880.out BK890.out (by decide)) BK891.out (by decide)) (fun _ h_ => h_.1)) (fun _ h_ => h_.1))) hb); have n1_ := am (Kd.R_below (by (with_reducible repeat (first | apply Kd.R_alloc | apply Kd.R_drewN | apply Kd.R_drew)); exact (Kd.R_mono (rj (Kd.R_types (Kd.R_types HO883.out BK890.out (by decide)) BK891.out (by decide)) (fun _ h_ => h_.1)) (fun _ h_ => h_.1))) hb); have n2_ := am (Kd.R_below (by (with_reducible repeat (first | apply Kd.R_alloc | apply Kd.R_drewN | apply Kd.R_drew)); exact (Kd.R_mono (rj (Kd.R_types (Kd.R_types HO887.out BK890.out (by decide)) BK891.out (by decide)) (fun _ h_ => h_.1)) (fun _ h_ => h_.1))) hb); have n3_ := am (blk_below (g := gb890) (o := .cells #[.int .i64 t873, .string t874, .string t875, .int .i64 t876] 25 (0, 0)) (pt1 BK890 NB890_891) hb); have n4_ := am (blk_below (g := gb891) (o := .cells #[.string t877, .slice Ao13 t878.length co13, .slice Ao14 t881.length co14, .int .i64 t884, .slice Ao15 t885.length co15, .string t888, .int .i64 t889] 31 (0, 0)) (pt1 BK891 NB891_890) hb); have n5_ := am (below_step bl hb); clear HO880; clear HO883; clear HO887; clear BK890; clear BK891; clear HB; have HO880 := n0_; have HO883 := n1_; have HO887 := n2_; have BK890 := n3_; have BK891 := n4_; have HB := n5_; clear n0_ n1_ n2_ n3_ n4_ n5_; clear hb))
 (try simp only [Act.put, List.setIfInBounds_toArray, List.set_cons_zero, List.set_cons_succ])
 go_cut [47] (fun v47 wc => ∃ (kq : Nat) (x47_5 : Bool), v47 = .bool x47_5 ∧ Aside0 (laws_FnHits.j0 kq l0 t892 x47_5 t873 t874 t875 t876 t877 t878 t881 t884 t885 t888 t889 = some r) ∧ Aside0 (kq ≤ k) ∧ Aside0 (Kd.R Kd.string 9 wc w.heap.size (fun k_ => some k_ ≠ ((.slice Ao14 t881.length co14) : Value).ownBlock) (.slice Ao13 t878.length co13) t878) ∧ Aside0 (Kd.R Kd.string 9 wc w.heap.size (fun k_ => some k_ ≠ ((.slice Ao13 t878.length co13) : Value).ownBlock) (.slice Ao14 t881.length co14) t881) ∧ Aside0 (Kd.R k116 116 wc w.heap.size (fun _ => True) (.slice Ao15 t885.length co15) t885) ∧ Aside0 (wc.heap[gb890]? = some (.cells #[.int .i64 t873, .string t874, .string t875, .int .i64 t876] 25 (0, 0))) ∧ Aside0 (wc.heap[gb891]? = some (.cells #[.string t877, (.slice Ao13 t878.length co13), (.slice Ao14 t881.length co14), .int .i64 t884, (.slice Ao15 t885.length co15), .string t888, .int .i64 t889] 31 (0, 0))) ∧ Aside0 (Below w.heap.size w wc))
 case first =>
  have H := HC6.out
  clear HC6
  revert H
  refine ok1 fun t893 A17 H => ?_
  by_cases c18 : (t892 != t893) = true
  ·rw [if_pos c18] at H
   have c18b0 : (t892 != t893) = true := c18
   (try (have c18b1 : decide (t892 = t893) = false := by simpa using c18))
   (try (have c18b2 : (t892 == t893) = false := by simpa using c18))
   (try (have c18b3 : ¬ (t892 = t893) := by simpa using c18))
   clear c18
   (first | rw [c18b0] | (simp only [i64_w, i32_w]; rw [c18b0]) | skip)
   cases k with
   | zero => exact absurd H (by simp [laws_FnHits.j0])
   | succ k_ => simp only [laws_FnHits.j0, if_true] at H; exact absurd (Option.some.inj H) (by rw [ht_]; decide)
  rw [if_neg c18] at H
  have c18b0 : (t892 != t893) = false := by simpa using c18
  (try (have c18b1 : decide (t892 = t893) = true := by simpa using c18))
  (try (have c18b2 : (t892 == t893) = true := by simpa using c18))
  clear c18
  (first | rw [c18b0] | (simp only [i64_w, i32_w]; rw [c18b0]) | skip)
  by_cases c19 : t892 = true
  rotate_left
  ·replace c19 := Bool.eq_false_iff.mpr c19
   subst c19
   rw [if_neg (show ¬ (false = true) by decide)] at H
   have H' := am H
   clear H
   have hnb33 := NB890_891.out
   have hnc33 := NB891_890.out
   obtain ⟨z34_0, y34_0, z34_1, y34_1, z34_2, y34_2, z34_3, y34_3⟩ := cl4 BK890
   obtain ⟨z35_0, y35_0, z35_1, y35_1, z35_2, y35_2, z35_3, y35_3, z35_4, y35_4, z35_5, y35_5, z35_6, y35_6⟩ := cl7 BK891
   go_wp2_with (first | ((with_reducible refine laws_FnHits.gx 26 rfl rfl ?_); refine gl 26 Tryz.func13 #[.agg #[.int .i64 t873, .string t874, .string t875, .int .i64 t876], .agg #[.string t877, .slice Ao13 t878.length co13, .slice Ao14 t881.length co14, .int .i64 t884, .slice Ao15 t885.length co15, .string t888, .int .i64 t889]] ?_; (with_reducible refine (spec_Hits.calls k t873 t874 t875 t876 t877 _ _ t878 _ _ t881 t884 _ _ t885 t888 t889 t893 _ ?side1 ?side2 ?side3 ?side4 ?side5 ?side6 A17.out).mono ?_); (case side1 => exact rc HO880); (case side2 => exact (Kd.R_reads' HO880.out).2.1); (case side3 => exact rc HO883); (case side4 => exact (Kd.R_reads' HO883.out).2.1); (case side5 => exact rc HO887); (case side6 => exact (Kd.R_reads' HO887.out).2.1); rintro e w36 ⟨rfl, hb⟩; refine ⟨_, rfl, ?_⟩; replace HO880 := kr HO880 hb; replace HO883 := kr HO883 hb; replace HO887 := kr HO887 hb; replace BK890 := kb BK890 hb; replace BK891 := kb BK891 hb; replace HB := am (below_step bl hb); clear hb))
   go_meet
   case rel => exact ⟨_, (false), rs, H', ⟨by first | omega | exact Nat.le_refl _⟩, ⟨by (with_reducible repeat (first | apply Kd.R_alloc | apply Kd.R_drewN | apply Kd.R_drew)); exact HO880.out⟩, ⟨by (with_reducible repeat (first | apply Kd.R_alloc | apply Kd.R_drewN | apply Kd.R_drew)); exact HO883.out⟩, ⟨by (with_reducible repeat (first | apply Kd.R_alloc | apply Kd.R_drewN | apply Kd.R_drew)); exact HO887.out⟩, ⟨by (with_reducible repeat (first | refine blk_drewN ?_ _ | refine blk_drew ?_ | refine blk_alloc ?_ _)); exact BK890.out⟩, ⟨by (with_reducible repeat (first | refine blk_drewN ?_ _ | refine blk_drew ?_ | refine blk_alloc ?_ _)); exact BK891.out⟩, ⟨u3HB⟩⟩
  subst c19
  rw [if_pos rfl] at H
  by_cases c20 : t889 > t876
  ·rw [if_pos c20] at H
   have c20b0 := decide_eq_true c20
   clear c20
   cases k with
   | zero => exact absurd H (by simp [laws_FnHits.j0])
   | succ k_ => simp only [laws_FnHits.j0, if_true] at H; exact absurd (Option.some.inj H) (by rw [ht_]; decide)
  rw [if_neg c20] at H
  have c20b0 := decide_eq_false c20
  clear c20
  revert H
  refine ok1 fun t894 A21 H => ?_
  by_cases c22 : t894 = true
  rotate_left
  ·replace c22 := Bool.eq_false_iff.mpr c22
   subst c22
   rw [if_neg (show ¬ (false = true) by decide)] at H
   cases k with
   | zero => exact absurd H (by simp [laws_FnHits.j0])
   | succ k_ => simp only [laws_FnHits.j0, if_true] at H; exact absurd (Option.some.inj H) (by rw [ht_]; decide)
  subst c22
  rw [if_pos rfl] at H
  revert H
  refine ok1 fun t895 A23 H => ?_
  have H' := am H
  clear H
  have hnb24 := NB890_891.out
  have hnc24 := NB891_890.out
  obtain ⟨z25_0, y25_0, z25_1, y25_1, z25_2, y25_2, z25_3, y25_3⟩ := cl4 BK890
  obtain ⟨z26_0, y26_0, z26_1, y26_1, z26_2, y26_2, z26_3, y26_3, z26_4, y26_4, z26_5, y26_5, z26_6, y26_6⟩ := cl7 BK891
  go_wp2_with (first | ((with_reducible refine laws_FnHits.gx 26 rfl rfl ?_); refine gl 26 Tryz.func13 #[.agg #[.int .i64 t873, .string t874, .string t875, .int .i64 t876], .agg #[.string t877, .slice Ao13 t878.length co13, .slice Ao14 t881.length co14, .int .i64 t884, .slice Ao15 t885.length co15, .string t888, .int .i64 t889]] ?_; (with_reducible refine (spec_Hits.calls k t873 t874 t875 t876 t877 _ _ t878 _ _ t881 t884 _ _ t885 t888 t889 t893 _ ?side1 ?side2 ?side3 ?side4 ?side5 ?side6 A17.out).mono ?_); (case side1 => exact rc HO880); (case side2 => exact (Kd.R_reads' HO880.out).2.1); (case side3 => exact rc HO883); (case side4 => exact (Kd.R_reads' HO883.out).2.1); (case side5 => exact rc HO887); (case side6 => exact (Kd.R_reads' HO887.out).2.1); rintro e w27 ⟨rfl, hb⟩; refine ⟨_, rfl, ?_⟩; replace HO880 := kr HO880 hb; replace HO883 := kr HO883 hb; replace HO887 := kr HO887 hb; replace BK890 := kb BK890 hb; replace BK891 := kb BK891 hb; replace HB := am (below_step bl hb); clear hb; obtain ⟨z28_0, y28_0, z28_1, y28_1, z28_2, y28_2, z28_3, y28_3, z28_4, y28_4, z28_5, y28_5, z28_6, y28_6⟩ := cl7 BK891; obtain ⟨z29_0, y29_0, z29_1, y29_1, z29_2, y29_2, z29_3, y29_3⟩ := cl4 BK890) | (go_at_call 14; (with_reducible refine (impl_BanOk.calls k t873 t874 t875 t876 true _ A21.out).mono ?_); rintro e w30 ⟨rfl, hb⟩; replace HO880 := kr HO880 hb; replace HO883 := kr HO883 hb; replace HO887 := kr HO887 hb; replace BK890 := kb BK890 hb; replace BK891 := kb BK891 hb; replace HB := am (below_step bl hb); clear hb; obtain ⟨z31_0, y31_0, z31_1, y31_1, z31_2, y31_2, z31_3, y31_3, z31_4, y31_4, z31_5, y31_5, z31_6, y31_6⟩ := cl7 BK891) | (go_at_call 15; (with_reducible refine (impl_ObjOk.calls k t877 _ _ t878 _ _ t881 t884 _ _ t885 t888 t889 t895 _ ?side1 ?side2 ?side3 ?side4 ?side5 ?side6 ?side7 A23.out).mono ?_); (case side1 => exact GLOBM.below HGM.out bl); (case side2 => exact rc HO880); (case side3 => exact (Kd.R_reads' HO880.out).2.1); (case side4 => exact rc HO883); (case side5 => exact (Kd.R_reads' HO883.out).2.1); (case side6 => exact rc HO887); (case side7 => exact (Kd.R_reads' HO887.out).2.1); rintro e w32 ⟨rfl, hb⟩; replace HO880 := kr HO880 hb; replace HO883 := kr HO883 hb; replace HO887 := kr HO887 hb; replace BK890 := kb BK890 hb; replace BK891 := kb BK891 hb; replace HB := am (below_step bl hb); clear hb))
  go_meet
  case rel => exact ⟨_, (!t895), rs, H', ⟨by first | omega | exact Nat.le_refl _⟩, ⟨by (with_reducible repeat (first | apply Kd.R_alloc | apply Kd.R_drewN | apply Kd.R_drew)); exact HO880.out⟩, ⟨by (with_reducible repeat (first | apply Kd.R_alloc | apply Kd.R_drewN | apply Kd.R_drew)); exact HO883.out⟩, ⟨by (with_reducible repeat (first | apply Kd.R_alloc | apply Kd.R_drewN | apply Kd.R_drew)); exact HO887.out⟩, ⟨by (with_reducible repeat (first | refine blk_drewN ?_ _ | refine blk_drew ?_ | refine blk_alloc ?_ _)); exact BK890.out⟩, ⟨by (with_reducible repeat (first | refine blk_drewN ?_ _ | refine blk_drew ?_ | refine blk_alloc ?_ _)); exact BK891.out⟩, ⟨u3HB⟩⟩
 case rest =>
  clear HC6
  try clear c1
  try clear c2
  try clear p2
  try clear c3
  try clear c10
  try clear c11
  try clear c12
  try clear c13
  try clear c18
  try clear c18b0
  try clear c18b1
  try clear c18b2
  try clear c19
  try clear c20
  try clear c20b0
  try clear c22
  try clear c24
  try clear c33
  try clear z11_0
  try clear z11_1
  try clear z11_2
  try clear z11_3
  try clear z12_0
  try clear z12_1
  try clear z12_2
  try clear z12_3
  try clear z12_4
  try clear z12_5
  try clear z12_6
  try clear z25_0
  try clear z25_1
  try clear z25_2
  try clear z25_3
  try clear z26_0
  try clear z26_1
  try clear z26_2
  try clear z26_3
  try clear z26_4
  try clear z26_5
  try clear z26_6
  try clear z28_0
  try clear z28_1
  try clear z28_2
  try clear z28_3
  try clear z28_4
  try clear z28_5
  try clear z28_6
  try clear z29_0
  try clear z29_1
  try clear z29_2
  try clear z29_3
  try clear z31_0
  try clear z31_1
  try clear z31_2
  try clear z31_3
  try clear z31_4
  try clear z31_5
  try clear z31_6
  try clear z34_0
  try clear z34_1
  try clear z34_2
  try clear z34_3
  try clear z35_0
  try clear z35_1
  try clear z35_2
  try clear z35_3
  try clear z35_4
  try clear z35_5
  try clear z35_6
  try clear y11_0
  try clear y11_1
  try clear y11_2
  try clear y11_3
  try clear y12_0
  try clear y12_1
  try clear y12_2
  try clear y12_3
  try clear y12_4
  try clear y12_5
  try clear y12_6
  try clear y25_0
  try clear y25_1
  try clear y25_2
  try clear y25_3
  try clear y26_0
  try clear y26_1
  try clear y26_2
  try clear y26_3
  try clear y26_4
  try clear y26_5
  try clear y26_6
  try clear y28_0
  try clear y28_1
  try clear y28_2
  try clear y28_3
  try clear y28_4
  try clear y28_5
  try clear y28_6
  try clear y29_0
  try clear y29_1
  try clear y29_2
  try clear y29_3
  try clear y31_0
  try clear y31_1
  try clear y31_2
  try clear y31_3
  try clear y31_4
  try clear y31_5
  try clear y31_6
  try clear y34_0
  try clear y34_1
  try clear y34_2
  try clear y34_3
  try clear y35_0
  try clear y35_1
  try clear y35_2
  try clear y35_3
  try clear y35_4
  try clear y35_5
  try clear y35_6
  obtain ⟨kq, x47_5, rfl, HA, HJ5, HO_892001, HO_892002, HO_892004, BK890, BK891, HB⟩ := hcut
  cases kq with
  | zero => exact absurd HA.out (by simp [laws_FnHits.j0])
  | succ kj5 =>
   have H := HA.out
   clear HA
   simp only [laws_FnHits.j0] at H
   by_cases c37 : x47_5 = true
   ·subst c37
    rw [if_pos rfl] at H
    exact absurd (Option.some.inj H) (by rw [ht_]; decide)
   replace c37 := Bool.eq_false_iff.mpr c37
   subst c37
   rw [if_neg (show ¬ (false = true) by decide)] at H
   revert H
   refine ok8 fun t896 t899 t900 t903 t906 t907 t910 t911 A38 H => ?_
   (try dsimp only at H)
   revert H
   refine ok1 fun t913 A39 H => ?_
   revert H
   refine ok1 fun t914 A40 H => ?_
   by_cases c41 : (t913 != t914) = true
   ·rw [if_pos c41] at H
    have c41b0 : (t913 != t914) = true := c41
    (try (have c41b1 : decide (t913 = t914) = false := by simpa using c41))
    (try (have c41b2 : (t913 == t914) = false := by simpa using c41))
    (try (have c41b3 : ¬ (t913 = t914) := by simpa using c41))
    clear c41
    exact absurd (Option.some.inj H) (by rw [ht_]; decide)
   rw [if_neg c41] at H
   have c41b0 : (t913 != t914) = false := by simpa using c41
   (try (have c41b1 : decide (t913 = t914) = true := by simpa using c41))
   (try (have c41b2 : (t913 == t914) = true := by simpa using c41))
   clear c41
   have H' := am H
   clear H
   go_wp2_with (first | ((with_reducible refine laws_FnHits.gx 50 rfl rfl ?_); refine gl 50 Tryz.func16 #[.slice A0 l0.length c0] ?_; (with_reducible refine (spec_DrawHitsAny.calls kj5 _ _ l0 t896 t899 t900 t903 t906 t907 t910 t911 _ ?side1 ?side2 A38.out).mono ?_); (case side1 => exact cb HR0); (case side2 => exact HC0.out); rintro e w42 ⟨v897, v901, v904, v908, rfl, ho0, ho1, ho2, ho3, hb⟩; refine ⟨_, rfl, ?_⟩; have HO898 := am (Kd.R_lower (Kd.R_newB ho0 (g := gb890) (o := .cells #[.int .i64 t873, .string t874, .string t875, .int .i64 t876] 25 (0, 0)) (bk BK890)) (below_size bl)); have HO902 := am (Kd.R_lower (Kd.R_new' (Kd.R_new' ho1 (Kd.R_lt (ro HO_892001))) (Kd.R_lt (ro HO_892002))) (below_size bl)); have HO905 := am (Kd.R_lower (Kd.R_new' (Kd.R_new' ho2 (Kd.R_lt (ro HO_892001))) (Kd.R_lt (ro HO_892002))) (below_size bl)); replace HO_892001 := am (Kd.R_mono (Kd.R_told (Kd.R_told (Kd.R_old (ro HO_892001) hb) (Kd.R_base ho1)) (Kd.R_base ho2)) (fun _ h_ => h_.1)); replace HO_892002 := am (Kd.R_mono (Kd.R_told (Kd.R_told (Kd.R_old (ro HO_892002) hb) (Kd.R_base ho1)) (Kd.R_base ho2)) (fun _ h_ => h_.1)); have HO909 := am (Kd.R_lower (Kd.R_new' ho3 (Kd.R_lt (ro HO_892004))) (below_size bl)); replace HO_892004 := am (Kd.R_elder' (ro HO_892004) (Kd.R_base ho3) hb); replace BK890 := kb BK890 hb; replace BK891 := kb BK891 hb; replace HB := am (below_step bl hb); clear hb ho0 ho1 ho2 ho3) | ((with_reducible refine laws_FnHits.gx 7 rfl rfl ?_); refine bx 7 #[.string (⟨#[]⟩ : ByteArray), .slice none 0 0, .slice none 0 0, .int .i64 0, .slice none 0 0, .string (⟨#[]⟩ : ByteArray), .int .i64 0] 31 ?_; intro gb912 hg w43 hbox hb; replace HO_892001 := am (Kd.R_below (ro HO_892001) hb); replace HO_892002 := am (Kd.R_below (ro HO_892002) hb); replace HO_892004 := am (Kd.R_below (ro HO_892004) hb); replace HO898 := am (Kd.R_below (ro HO898) hb); replace HO902 := am (Kd.R_below (ro HO902) hb); replace HO905 := am (Kd.R_below (ro HO905) hb); replace HO909 := am (Kd.R_below (ro HO909) hb); have BK912 := am (hbox); have GW912 := am (sz hg : w.heap.size ≤ gb912); have GE912 := am (sz hg : w.heap.size ≤ gb912); replace HB := am (below_step bl hb); have NB890_912 := am (nl hg BK890 : gb890 ≠ gb912); have NB912_890 := am (ng hg BK890 : gb912 ≠ gb890); replace BK890 := kb BK890 hb; have NB891_912 := am (nl hg BK891 : gb891 ≠ gb912); have NB912_891 := am (ng hg BK891 : gb912 ≠ gb891); replace BK891 := kb BK891 hb; clear hb hbox hg; have hnb44 := NB912_890.out; have hnc44 := NB890_912.out; have hnb45 := NB912_891.out; have hnc45 := NB891_912.out; obtain ⟨z46_0, y46_0, z46_1, y46_1, z46_2, y46_2, z46_3, y46_3, z46_4, y46_4, z46_5, y46_5, z46_6, y46_6⟩ := cl7 BK912; obtain ⟨Ao47, co47, eo47⟩ := Kd.R_slice HO902.out; subst eo47; obtain ⟨Ao48, co48, eo48⟩ := Kd.R_slice HO905.out; subst eo48; obtain ⟨Ao49, co49, eo49⟩ := Kd.R_slice HO909.out; subst eo49; obtain ⟨Ao50, co50, eo50⟩ := Kd.R_slice HO898.out; subst eo50) | ((with_reducible refine laws_FnHits.gx 55 rfl rfl ?_); refine gl 55 Tryz.func17 #[.slice Ao50 t896.length co50, .agg #[.string t899, .slice Ao47 t900.length co47, .slice Ao48 t903.length co48, .int .i64 t906, .slice Ao49 t907.length co49, .string t910, .int .i64 t911]] ?_; (with_reducible refine (impl_HitsAny.calls kj5 _ _ t896 t899 _ _ t900 _ _ t903 t906 _ _ t907 t910 t911 t913 _ ?side1 ?side2 ?side3 ?side4 ?side5 ?side6 ?side7 ?side8 ?side9 A39.out).mono ?_); (case side1 => exact GLOBM.below HGM.out bl); (case side2 => refine (Kd.R_reads' (e := 25) (base := w.heap.size) (ok := fun k_ => (True ∧ k_ ≠ gb890)) (n := t896.length) (c := co50) ?_).2.2; exact (rj (Kd.R_types HO898.out BK912.out (by decide)) (fun _ h_ => h_.1))); (case side3 => exact (Kd.R_reads' HO898.out).2.1); (case side4 => refine (Kd.R_reads' (e := 9) (base := w.heap.size) (ok := fun k_ => ((some k_ ≠ (.slice Ao48 t903.length co48 : Value).ownBlock ∧ some k_ ≠ (.slice Ao13 t878.length co13 : Value).ownBlock) ∧ some k_ ≠ (.slice Ao14 t881.length co14 : Value).ownBlock)) (n := t900.length) (c := co47) ?_).2.2; exact (rj (Kd.R_types HO902.out BK912.out (by decide)) (fun _ h_ => h_.1))); (case side5 => exact (Kd.R_reads' HO902.out).2.1); (case side6 => refine (Kd.R_reads' (e := 9) (base := w.heap.size) (ok := fun k_ => ((some k_ ≠ (.slice Ao47 t900.length co47 : Value).ownBlock ∧ some k_ ≠ (.slice Ao13 t878.length co13 : Value).ownBlock) ∧ some k_ ≠ (.slice Ao14 t881.length co14 : Value).ownBlock)) (n := t903.length) (c := co48) ?_).2.2; exact (rj (Kd.R_types HO905.out BK912.out (by decide)) (fun _ h_ => h_.1))); (case side7 => exact (Kd.R_reads' HO905.out).2.1); (case side8 => refine (Kd.R_reads' (e := 116) (base := w.heap.size) (ok := fun k_ => (True ∧ some k_ ≠ (.slice Ao15 t885.length co15 : Value).ownBlock)) (n := t907.length) (c := co49) ?_).2.2; exact (rj (Kd.R_types HO909.out BK912.out (by decide)) (fun _ h_ => h_.1))); (case side9 => exact (Kd.R_reads' HO909.out).2.1); rintro e w51 ⟨rfl, hb⟩; refine ⟨_, rfl, ?_⟩; replace HO_892001 := am (Kd.R_below (rj (Kd.R_types HO_892001.out BK912.out (by decide)) (fun _ h_ => h_.1)) hb); replace HO_892002 := am (Kd.R_below (rj (Kd.R_types HO_892002.out BK912.out (by decide)) (fun _ h_ => h_.1)) hb); replace HO_892004 := am (Kd.R_below (rj (Kd.R_types HO_892004.out BK912.out (by decide)) (fun _ h_ => h_.1)) hb); replace HO898 := am (Kd.R_below (rj (Kd.R_types HO898.out BK912.out (by decide)) (fun _ h_ => h_.1)) hb); replace HO902 := am (Kd.R_below (rj (Kd.R_types HO902.out BK912.out (by decide)) (fun _ h_ => h_.1)) hb); replace HO905 := am (Kd.R_below (rj (Kd.R_types HO905.out BK912.out (by decide)) (fun _ h_ => h_.1)) hb); replace HO909 := am (Kd.R_below (rj (Kd.R_types HO909.out BK912.out (by decide)) (fun _ h_ => h_.1)) hb); replace BK890 := kg1 BK890 NB890_912 hb; replace BK891 := kg1 BK891 NB891_912 hb; replace BK912 := am (blk_below (g := gb912) (o := .cells #[.string t899, .slice Ao47 t900.length co47, .slice Ao48 t903.length co48, .int .i64 t906, .slice Ao49 t907.length co49, .string t910, .int .i64 t911] 31 (0, 0)) (pt0 BK912) hb); replace HB := am (below_step bl hb); clear hb; obtain ⟨z52_0, y52_0, z52_1, y52_1, z52_2, y52_2, z52_3, y52_3, z52_4, y52_4, z52_5, y52_5, z52_6, y52_6⟩ := cl7 BK912) | ((with_reducible refine laws_FnHits.gx 59 rfl rfl ?_); refine gl 59 Tryz.func18 #[.slice Ao50 t896.length co50, .agg #[.string t899, .slice Ao47 t900.length co47, .slice Ao48 t903.length co48, .int .i64 t906, .slice Ao49 t907.length co49, .string t910, .int .i64 t911]] ?_; (with_reducible refine (spec_HitsAny.calls kj5 _ _ t896 t899 _ _ t900 _ _ t903 t906 _ _ t907 t910 t911 t914 _ ?side1 ?side2 ?side3 ?side4 ?side5 ?side6 ?side7 ?side8 A40.out).mono ?_); (case side1 => exact rc HO898); (case side2 => exact (Kd.R_reads' HO898.out).2.1); (case side3 => exact rc HO902); (case side4 => exact (Kd.R_reads' HO902.out).2.1); (case side5 => exact rc HO905); (case side6 => exact (Kd.R_reads' HO905.out).2.1); (case side7 => exact rc HO909); (case side8 => exact (Kd.R_reads' HO909.out).2.1); rintro e w53 ⟨rfl, hb⟩; refine ⟨_, rfl, ?_⟩; replace HO_892001 := kr HO_892001 hb; replace HO_892002 := kr HO_892002 hb; replace HO_892004 := kr HO_892004 hb; replace HO898 := kr HO898 hb; replace HO902 := kr HO902 hb; replace HO905 := kr HO905 hb; replace HO909 := kr HO909 hb; replace BK890 := kb BK890 hb; replace BK891 := kb BK891 hb; replace BK912 := kb BK912 hb; replace HB := am (below_step bl hb); clear hb))
   (try simp only [Act.put, List.setIfInBounds_toArray, List.set_cons_zero, List.set_cons_succ])
   go_loopg [9, 10] kj5 (fun kq v9 v10 w' => ∃ (x9_2 : Bool) (x10_2 : Int), v9 = .bool x9_2 ∧ v10 = .int .i64 x10_2 ∧ Aside0 (laws_FnHits.l0 kq t892 t896 t913 x9_2 x10_2 t873 t874 t875 t876 t877 t878 t881 t884 t885 t888 t889 t899 t900 t903 t906 t907 t910 t911 = some r) ∧ Aside0 (kq ≤ kj5) ∧ Aside0 (Kd.R k25 25 w' w.heap.size (fun k_ => k_ ≠ gb890) (.slice Ao50 t896.length co50) t896) ∧ Aside0 (Kd.R Kd.string 9 w' w.heap.size (fun k_ => some k_ ≠ ((.slice Ao14 t881.length co14) : Value).ownBlock ∧ some k_ ≠ ((.slice Ao47 t900.length co47) : Value).ownBlock ∧ some k_ ≠ ((.slice Ao48 t903.length co48) : Value).ownBlock) (.slice Ao13 t878.length co13) t878) ∧ Aside0 (Kd.R Kd.string 9 w' w.heap.size (fun k_ => some k_ ≠ ((.slice Ao13 t878.length co13) : Value).ownBlock ∧ some k_ ≠ ((.slice Ao47 t900.length co47) : Value).ownBlock ∧ some k_ ≠ ((.slice Ao48 t903.length co48) : Value).ownBlock) (.slice Ao14 t881.length co14) t881) ∧ Aside0 (Kd.R k116 116 w' w.heap.size (fun k_ => some k_ ≠ ((.slice Ao49 t907.length co49) : Value).ownBlock) (.slice Ao15 t885.length co15) t885) ∧ Aside0 (Kd.R Kd.string 9 w' w.heap.size (fun k_ => some k_ ≠ ((.slice Ao13 t878.length co13) : Value).ownBlock ∧ some k_ ≠ ((.slice Ao14 t881.length co14) : Value).ownBlock ∧ some k_ ≠ ((.slice Ao48 t903.length co48) : Value).ownBlock) (.slice Ao47 t900.length co47) t900) ∧ Aside0 (Kd.R Kd.string 9 w' w.heap.size (fun k_ => some k_ ≠ ((.slice Ao13 t878.length co13) : Value).ownBlock ∧ some k_ ≠ ((.slice Ao14 t881.length co14) : Value).ownBlock ∧ some k_ ≠ ((.slice Ao47 t900.length co47) : Value).ownBlock) (.slice Ao48 t903.length co48) t903) ∧ Aside0 (Kd.R k116 116 w' w.heap.size (fun k_ => some k_ ≠ ((.slice Ao15 t885.length co15) : Value).ownBlock) (.slice Ao49 t907.length co49) t907) ∧ Aside0 (w'.heap[gb890]? = some (.cells #[.int .i64 t873, .string t874, .string t875, .int .i64 t876] 25 (0, 0))) ∧ Aside0 (w'.heap[gb891]? = some (.cells #[.string t877, (.slice Ao13 t878.length co13), (.slice Ao14 t881.length co14), .int .i64 t884, (.slice Ao15 t885.length co15), .string t888, .int .i64 t889] 31 (0, 0))) ∧ Aside0 (w'.heap[gb912]? = some (.cells #[.string t899, (.slice Ao47 t900.length co47), (.slice Ao48 t903.length co48), .int .i64 t906, (.slice Ao49 t907.length co49), .string t910, .int .i64 t911] 31 (0, 0))) ∧ Aside0 (Below w.heap.size w w'))
   case atStart => exact ⟨(false), (0), rs, rs, H', ⟨Nat.le_refl _⟩, ⟨by (with_reducible repeat (first | apply Kd.R_alloc | apply Kd.R_drewN | apply Kd.R_drew)); exact Kd.R_mono HO898.out (fun _ hk => hk.2)⟩, ⟨by (with_reducible repeat (first | apply Kd.R_alloc | apply Kd.R_drewN | apply Kd.R_drew)); exact Kd.R_mono HO_892001.out (fun _ hk => ⟨hk.1.1, ⟨hk.1.2, hk.2⟩⟩)⟩, ⟨by (with_reducible repeat (first | apply Kd.R_alloc | apply Kd.R_drewN | apply Kd.R_drew)); exact Kd.R_mono HO_892002.out (fun _ hk => ⟨hk.1.1, ⟨hk.1.2, hk.2⟩⟩)⟩, ⟨by (with_reducible repeat (first | apply Kd.R_alloc | apply Kd.R_drewN | apply Kd.R_drew)); exact Kd.R_mono HO_892004.out (fun _ hk => hk.2)⟩, ⟨by (with_reducible repeat (first | apply Kd.R_alloc | apply Kd.R_drewN | apply Kd.R_drew)); exact Kd.R_mono HO902.out (fun _ hk => ⟨hk.1.2, ⟨hk.2, hk.1.1⟩⟩)⟩, ⟨by (with_reducible repeat (first | apply Kd.R_alloc | apply Kd.R_drewN | apply Kd.R_drew)); exact Kd.R_mono HO905.out (fun _ hk => ⟨hk.1.2, ⟨hk.2, hk.1.1⟩⟩)⟩, ⟨by (with_reducible repeat (first | apply Kd.R_alloc | apply Kd.R_drewN | apply Kd.R_drew)); exact Kd.R_mono HO909.out (fun _ hk => hk.2)⟩, ⟨by (with_reducible repeat (first | refine blk_drewN ?_ _ | refine blk_drew ?_ | refine blk_alloc ?_ _)); exact BK890.out⟩, ⟨by (with_reducible repeat (first | refine blk_drewN ?_ _ | refine blk_drew ?_ | refine blk_alloc ?_ _)); exact BK891.out⟩, ⟨by (with_reducible repeat (first | refine blk_drewN ?_ _ | refine blk_drew ?_ | refine blk_alloc ?_ _)); exact BK912.out⟩, ⟨u3HB⟩⟩
   case round =>
    clear H'
    try clear c1
    try clear c2
    try clear p2
    try clear c3
    try clear c4
    try clear c10
    try clear c11
    try clear c12
    try clear c13
    try clear c16
    try clear c17
    try clear c18
    try clear c18b0
    try clear c18b1
    try clear c18b2
    try clear c19
    try clear c20
    try clear c20b0
    try clear c22
    try clear c24
    try clear c33
    try clear c37
    try clear c41
    try clear c41b0
    try clear c41b1
    try clear c41b2
    try clear c44
    try clear c45
    try clear z11_0
    try clear z11_1
    try clear z11_2
    try clear z11_3
    try clear z12_0
    try clear z12_1
    try clear z12_2
    try clear z12_3
    try clear z12_4
    try clear z12_5
    try clear z12_6
    try clear z25_0
    try clear z25_1
    try clear z25_2
    try clear z25_3
    try clear z26_0
    try clear z26_1
    try clear z26_2
    try clear z26_3
    try clear z26_4
    try clear z26_5
    try clear z26_6
    try clear z28_0
    try clear z28_1
    try clear z28_2
    try clear z28_3
    try clear z28_4
    try clear z28_5
    try clear z28_6
    try clear z29_0
    try clear z29_1
    try clear z29_2
    try clear z29_3
    try clear z31_0
    try clear z31_1
    try clear z31_2
    try clear z31_3
    try clear z31_4
    try clear z31_5
    try clear z31_6
    try clear z34_0
    try clear z34_1
    try clear z34_2
    try clear z34_3
    try clear z35_0
    try clear z35_1
    try clear z35_2
    try clear z35_3
    try clear z35_4
    try clear z35_5
    try clear z35_6
    try clear z46_0
    try clear z46_1
    try clear z46_2
    try clear z46_3
    try clear z46_4
    try clear z46_5
    try clear z46_6
    try clear z52_0
    try clear z52_1
    try clear z52_2
    try clear z52_3
    try clear z52_4
    try clear z52_5
    try clear z52_6
    try clear y11_0
    try clear y11_1
    try clear y11_2
    try clear y11_3
    try clear y12_0
    try clear y12_1
    try clear y12_2
    try clear y12_3
    try clear y12_4
    try clear y12_5
    try clear y12_6
    try clear y25_0
    try clear y25_1
    try clear y25_2
    try clear y25_3
    try clear y26_0
    try clear y26_1
    try clear y26_2
    try clear y26_3
    try clear y26_4
    try clear y26_5
    try clear y26_6
    try clear y28_0
    try clear y28_1
    try clear y28_2
    try clear y28_3
    try clear y28_4
    try clear y28_5
    try clear y28_6
    try clear y29_0
    try clear y29_1
    try clear y29_2
    try clear y29_3
    try clear y31_0
    try clear y31_1
    try clear y31_2
    try clear y31_3
    try clear y31_4
    try clear y31_5
    try clear y31_6
    try clear y34_0
    try clear y34_1
    try clear y34_2
    try clear y34_3
    try clear y35_0
    try clear y35_1
    try clear y35_2
    try clear y35_3
    try clear y35_4
    try clear y35_5
    try clear y35_6
    try clear y46_0
    try clear y46_1
    try clear y46_2
    try clear y46_3
    try clear y46_4
    try clear y46_5
    try clear y46_6
    try clear y52_0
    try clear y52_1
    try clear y52_2
    try clear y52_3
    try clear y52_4
    try clear y52_5
    try clear y52_6
    try clear p2
    obtain ⟨x9_2, x10_2, rfl, rfl, HA, HK2, HO_6, HO_892001, HO_892002, HO_892004, HO_913001, HO_913002, HO_913004, BK890, BK891, BK912, HB⟩ := hrel
    cases gk with
    | zero => exact absurd HA.out (by simp [laws_FnHits.l0])
    | succ k2 =>
     have H := HA.out
     clear HA
     simp only [laws_FnHits.l0] at H
     by_cases c54 : x10_2 < (t896.length : Int)
     ·rw [if_pos c54] at H
      have c54b0 := decide_eq_true c54
      clear c54
      by_cases c55 : x9_2 = true
      ·subst c55
       rw [if_pos rfl] at H
       have H' := am H
       clear H
       try go_wp2
       replace HO_6 := am (Kd.R_drew HO_6.out)
       replace HO_892001 := am (Kd.R_drew HO_892001.out)
       replace HO_892002 := am (Kd.R_drew HO_892002.out)
       replace HO_892004 := am (Kd.R_drew HO_892004.out)
       replace HO_913001 := am (Kd.R_drew HO_913001.out)
       replace HO_913002 := am (Kd.R_drew HO_913002.out)
       replace HO_913004 := am (Kd.R_drew HO_913004.out)
       replace BK890 := am (blk_drew BK890.out)
       replace BK891 := am (blk_drew BK891.out)
       replace BK912 := am (blk_drew BK912.out)
       replace HB := am (below_drew1 HB.out)
       refine start_ (n := 10) (S := fun w' => True) (ds := []) ⟨br true [0, 10]⟩ (by kernel_rfl) rfl (by kernel_rfl) trivial (fun hHeld => ?_); refine with_tabW laws_FnHits.tab15 laws_FnHits.bits15 (fun HT_ HW_ => ?_)
       generalize wr.drew = w56 at HO_6 HO_892001 HO_892002 HO_892004 HO_913001 HO_913002 HO_913004 BK890 BK891 BK912 HB hHeld ⊢
       refine pu 0 67 [1, 9] ?_
       refine pu 1 68 [2, 8] ?_
       refine pd 2 69 [3, 7] ?_
       refine pd 3 70 [4, 6] ?_
       refine pd 4 71 [5, 5] ?_
       refine pd 5 72 [6, 4] ?_
       refine pd 6 73 [7, 3] ?_
       refine pd 7 74 [8, 2] ?_
       refine pu 8 75 [9, 1] ?_
       refine pu 9 9 [10] ?_
       refine done_ (done_of HT_.out (by kernel_rfl)) ?_
       try go_wp2
       go_roundg k2
       case measure => have := HJ5.out; have := HK2.out; omega
       case rel => exact ⟨(true), (wrap64 (x10_2 + 1)), rs, rs, H', ⟨by have := HJ5.out; have := HK2.out; omega⟩, ⟨by (with_reducible repeat (first | apply Kd.R_alloc | apply Kd.R_drewN | apply Kd.R_drew)); exact HO_6.out⟩, ⟨by (with_reducible repeat (first | apply Kd.R_alloc | apply Kd.R_drewN | apply Kd.R_drew)); exact HO_892001.out⟩, ⟨by (with_reducible repeat (first | apply Kd.R_alloc | apply Kd.R_drewN | apply Kd.R_drew)); exact HO_892002.out⟩, ⟨by (with_reducible repeat (first | apply Kd.R_alloc | apply Kd.R_drewN | apply Kd.R_drew)); exact HO_892004.out⟩, ⟨by (with_reducible repeat (first | apply Kd.R_alloc | apply Kd.R_drewN | apply Kd.R_drew)); exact HO_913001.out⟩, ⟨by (with_reducible repeat (first | apply Kd.R_alloc | apply Kd.R_drewN | apply Kd.R_drew)); exact HO_913002.out⟩, ⟨by (with_reducible repeat (first | apply Kd.R_alloc | apply Kd.R_drewN | apply Kd.R_drew)); exact HO_913004.out⟩, ⟨by (with_reducible repeat (first | refine blk_drewN ?_ _ | refine blk_drew ?_ | refine blk_alloc ?_ _)); exact BK890.out⟩, ⟨by (with_reducible repeat (first | refine blk_drewN ?_ _ | refine blk_drew ?_ | refine blk_alloc ?_ _)); exact BK891.out⟩, ⟨by (with_reducible repeat (first | refine blk_drewN ?_ _ | refine blk_drew ?_ | refine blk_alloc ?_ _)); exact BK912.out⟩, ⟨u3HB⟩⟩
      replace c55 := Bool.eq_false_iff.mpr c55
      subst c55
      rw [if_neg (show ¬ (false = true) by decide)] at H
      revert H
      refine ifn fun c57 H => ?_
      have c57b0 := decide_eq_true c57
      clear c57
      revert H
      refine ok1 fun t916 A58 H => ?_
      have H' := am H
      clear H
      try go_wp2
      replace HO_6 := am (Kd.R_drew HO_6.out)
      replace HO_892001 := am (Kd.R_drew HO_892001.out)
      replace HO_892002 := am (Kd.R_drew HO_892002.out)
      replace HO_892004 := am (Kd.R_drew HO_892004.out)
      replace HO_913001 := am (Kd.R_drew HO_913001.out)
      replace HO_913002 := am (Kd.R_drew HO_913002.out)
      replace HO_913004 := am (Kd.R_drew HO_913004.out)
      replace BK890 := am (blk_drew BK890.out)
      replace BK891 := am (blk_drew BK891.out)
      replace BK912 := am (blk_drew BK912.out)
      replace HB := am (below_drew1 HB.out)
      have p915 : 0 ≤ (x10_2 : Int) := od
      have q915 : x10_2 < (t896.length : Int) := od
      obtain ⟨ad915, e915, hx915_0, hx915_1, hx915_2, hx915_3⟩ := at_T25 (Kd.R_reads' HO_6.out).2.2 x10_2 p915 q915
      cases e915
      replace p915 := eq_true p915
      replace q915 := eq_true q915
      refine start_ (n := 10) (S := fun w' => w'.cell? ⟨gb912, 0, none⟩ = some (.string t899) ∧ w'.cell? ⟨gb912, 1, none⟩ = some (.slice Ao47 t900.length co47) ∧ w'.cell? ⟨gb912, 2, none⟩ = some (.slice Ao48 t903.length co48) ∧ w'.cell? ⟨gb912, 3, none⟩ = some (.int .i64 t906) ∧ w'.cell? ⟨gb912, 4, none⟩ = some (.slice Ao49 t907.length co49) ∧ w'.cell? ⟨gb912, 5, none⟩ = some (.string t910) ∧ w'.cell? ⟨gb912, 6, none⟩ = some (.int .i64 t911) ∧ w'.cell? (ad915.add ((x10_2).toNat * 4)) = some (.int .i64 ((rd_T25 t896 x10_2).f0)) ∧ w'.cell? ⟨(ad915.add ((x10_2).toNat * 4)).block, (ad915.add ((x10_2).toNat * 4)).off + 1, none⟩ = some (.string ((rd_T25 t896 x10_2).f1)) ∧ w'.cell? ⟨(ad915.add ((x10_2).toNat * 4)).block, (ad915.add ((x10_2).toNat * 4)).off + 2, none⟩ = some (.string ((rd_T25 t896 x10_2).f2)) ∧ w'.cell? ⟨(ad915.add ((x10_2).toNat * 4)).block, (ad915.add ((x10_2).toNat * 4)).off + 3, none⟩ = some (.int .i64 ((rd_T25 t896 x10_2).f3))) (ds := []) ⟨br true [0, 10]⟩ (by kernel_rfl) rfl (by kernel_rfl) ⟨bc BK912, bc BK912, bc BK912, bc BK912, bc BK912, bc BK912, bc BK912, hx915_0, hx915_1, hx915_2, hx915_3⟩ (fun hHeld => ?_); refine with_tabW laws_FnHits.tab15 laws_FnHits.bits15 (fun HT_ HW_ => ?_)
      generalize wr.drew = w59 at HO_6 HO_892001 HO_892002 HO_892004 HO_913001 HO_913002 HO_913004 BK890 BK891 BK912 HB hx915_0 hx915_1 hx915_2 hx915_3 hHeld ⊢
      refine pu 0 67 [1, 9] ?_
      refine pu 1 68 [2, 8] ?_
      refine pu 2 69 [3, 7] ?_
      refine pu 3 70 [4, 6] ?_
      refine pu 4 71 [5, 5] ?_
      refine tk 5 72 [6, 4] ?_
      refine tk 6 73 [7, 3] ?_
      refine og 7 74 [8, 2] Tryz.func12 #[.agg #[.int .i64 ((rd_T25 t896 x10_2).f0), .string ((rd_T25 t896 x10_2).f1), .string ((rd_T25 t896 x10_2).f2), .int .i64 ((rd_T25 t896 x10_2).f3)], .agg #[.string t899, .slice Ao47 t900.length co47, .slice Ao48 t903.length co48, .int .i64 t906, .slice Ao49 t907.length co49, .string t910, .int .i64 t911]] (fun K hK => ?_)
      with_reducible refine (impl_Hits.calls k2 ((rd_T25 t896 x10_2).f0) ((rd_T25 t896 x10_2).f1) ((rd_T25 t896 x10_2).f2) ((rd_T25 t896 x10_2).f3) t899 _ _ t900 _ _ t903 t906 _ _ t907 t910 t911 t916 _ ?side1 ?side2 ?side3 ?side4 ?side5 ?side6 ?side7 A58.out).mono ?_
      (case side1 => exact GLOBM.below HGM.out bl)
      (case side2 => exact rc HO_913001)
      (case side3 => exact (Kd.R_reads' HO_913001.out).2.1)
      (case side4 => exact rc HO_913002)
      (case side5 => exact (Kd.R_reads' HO_913002.out).2.1)
      (case side6 => exact rc HO_913004)
      (case side7 => exact (Kd.R_reads' HO_913004.out).2.1)
      rintro e w60 ⟨rfl, hb⟩
      have HS7_ := (hb.cell (World.block_lt_of_cell? _ _ (hHeld.2.2.2.2.2.2.2.1))).trans (hHeld.2.2.2.2.2.2.2.1)
      have HS8_ := (hb.cell (World.block_lt_of_cell? _ _ (hHeld.2.2.2.2.2.2.2.2.1))).trans (hHeld.2.2.2.2.2.2.2.2.1)
      have HS9_ := (hb.cell (World.block_lt_of_cell? _ _ (hHeld.2.2.2.2.2.2.2.2.2.1))).trans (hHeld.2.2.2.2.2.2.2.2.2.1)
      have HS10_ := (hb.cell (World.block_lt_of_cell? _ _ (hHeld.2.2.2.2.2.2.2.2.2.2))).trans (hHeld.2.2.2.2.2.2.2.2.2.2)
      refine ⟨_, rfl, ?_⟩
      replace HO_6 := kr HO_6 hb
      replace HO_892001 := kr HO_892001 hb
      replace HO_892002 := kr HO_892002 hb
      replace HO_892004 := kr HO_892004 hb
      replace HO_913001 := kr HO_913001 hb
      replace HO_913002 := kr HO_913002 hb
      replace HO_913004 := kr HO_913004 hb
      replace BK890 := kb BK890 hb
      replace BK891 := kb BK891 hb
      replace BK912 := kb BK912 hb
      replace HB := am (below_step bl hb)
      clear hb
      refine hK.out _ _ ⟨bc BK912, bc BK912, bc BK912, bc BK912, bc BK912, bc BK912, bc BK912, HS7_, HS8_, HS9_, HS10_⟩ (fun hHeld => ?_)
      clear hK K
      refine nm 74 ?_
      refine pu 8 75 [9, 1] ?_
      refine pu 9 9 [10] ?_
      refine done_ (done_of HT_.out (by kernel_rfl)) ?_
      try go_wp2
      go_roundg k2
      case measure => have := HJ5.out; have := HK2.out; omega
      case rel => exact ⟨(t916), (wrap64 (x10_2 + 1)), rs, rs, H', ⟨by have := HJ5.out; have := HK2.out; omega⟩, ⟨by (with_reducible repeat (first | apply Kd.R_alloc | apply Kd.R_drewN | apply Kd.R_drew)); exact HO_6.out⟩, ⟨by (with_reducible repeat (first | apply Kd.R_alloc | apply Kd.R_drewN | apply Kd.R_drew)); exact HO_892001.out⟩, ⟨by (with_reducible repeat (first | apply Kd.R_alloc | apply Kd.R_drewN | apply Kd.R_drew)); exact HO_892002.out⟩, ⟨by (with_reducible repeat (first | apply Kd.R_alloc | apply Kd.R_drewN | apply Kd.R_drew)); exact HO_892004.out⟩, ⟨by (with_reducible repeat (first | apply Kd.R_alloc | apply Kd.R_drewN | apply Kd.R_drew)); exact HO_913001.out⟩, ⟨by (with_reducible repeat (first | apply Kd.R_alloc | apply Kd.R_drewN | apply Kd.R_drew)); exact HO_913002.out⟩, ⟨by (with_reducible repeat (first | apply Kd.R_alloc | apply Kd.R_drewN | apply Kd.R_drew)); exact HO_913004.out⟩, ⟨by (with_reducible repeat (first | refine blk_drewN ?_ _ | refine blk_drew ?_ | refine blk_alloc ?_ _)); exact BK890.out⟩, ⟨by (with_reducible repeat (first | refine blk_drewN ?_ _ | refine blk_drew ?_ | refine blk_alloc ?_ _)); exact BK891.out⟩, ⟨by (with_reducible repeat (first | refine blk_drewN ?_ _ | refine blk_drew ?_ | refine blk_alloc ?_ _)); exact BK912.out⟩, ⟨u3HB⟩⟩
     rw [if_neg c54] at H
     have c54b0 := decide_eq_false c54
     clear c54
     have HC61 := am H
     clear H
     have hnb62 := NB890_891.out
     have hnc62 := NB891_890.out
     have hnb63 := NB890_912.out
     have hnc63 := NB912_890.out
     obtain ⟨z64_0, y64_0, z64_1, y64_1, z64_2, y64_2, z64_3, y64_3⟩ := cl4 BK890
     go_upto_region 18 with (first | ((with_reducible refine laws_FnHits.gx 11 rfl rfl ?_); refine bx 11 #[.int .i64 0, .string (⟨#[]⟩ : ByteArray), .string (⟨#[]⟩ : ByteArray), .int .i64 0] 25 ?_; intro gb917 hg w65 hbox hb; replace HO_6 := am (Kd.R_below (Kd.R_elderB (ro HO_6) gb917 (Nat.le_of_eq hg.symm)) hb); replace HO_892001 := am (Kd.R_below (ro HO_892001) hb); replace HO_892002 := am (Kd.R_below (ro HO_892002) hb); replace HO_892004 := am (Kd.R_below (ro HO_892004) hb); replace HO_913001 := am (Kd.R_below (ro HO_913001) hb); replace HO_913002 := am (Kd.R_below (ro HO_913002) hb); replace HO_913004 := am (Kd.R_below (ro HO_913004) hb); have BK917 := am (hbox); have GW917 := am (sz hg : w.heap.size ≤ gb917); have GE917 := am (sz hg : w.heap.size ≤ gb917); replace HB := am (below_step bl hb); have NB890_917 := am (nl hg BK890 : gb890 ≠ gb917); have NB917_890 := am (ng hg BK890 : gb917 ≠ gb890); replace BK890 := kb BK890 hb; have NB891_917 := am (nl hg BK891 : gb891 ≠ gb917); have NB917_891 := am (ng hg BK891 : gb917 ≠ gb891); replace BK891 := kb BK891 hb; have NB912_917 := am (nl hg BK912 : gb912 ≠ gb917); have NB917_912 := am (ng hg BK912 : gb917 ≠ gb912); replace BK912 := kb BK912 hb; clear hb hbox hg; have hnb66 := NB917_890.out; have hnc66 := NB890_917.out; have hnb67 := NB917_891.out; have hnc67 := NB891_917.out; have hnb68 := NB917_912.out; have hnc68 := NB912_917.out; obtain ⟨z69_0, y69_0, z69_1, y69_1, z69_2, y69_2, z69_3, y69_3⟩ := cl4 BK917))
     (try simp only [Act.put, List.setIfInBounds_toArray, List.set_cons_zero, List.set_cons_succ])
     go_cut [83] (fun v83 wc => ∃ (kq : Nat) (x83_60 : Bool), v83 = .bool x83_60 ∧ Aside0 (laws_FnHits.j2 kq t892 t913 x9_2 x83_60 t873 t874 t875 t876 t877 t878 t881 t884 t885 t888 t889 t873 t874 t875 1000000 = some r) ∧ Aside0 (kq ≤ k2) ∧ Aside0 (Kd.R Kd.string 9 wc w.heap.size (fun k_ => some k_ ≠ ((.slice Ao14 t881.length co14) : Value).ownBlock ∧ some k_ ≠ ((.slice Ao47 t900.length co47) : Value).ownBlock ∧ some k_ ≠ ((.slice Ao48 t903.length co48) : Value).ownBlock) (.slice Ao13 t878.length co13) t878) ∧ Aside0 (Kd.R Kd.string 9 wc w.heap.size (fun k_ => some k_ ≠ ((.slice Ao13 t878.length co13) : Value).ownBlock ∧ some k_ ≠ ((.slice Ao47 t900.length co47) : Value).ownBlock ∧ some k_ ≠ ((.slice Ao48 t903.length co48) : Value).ownBlock) (.slice Ao14 t881.length co14) t881) ∧ Aside0 (Kd.R k116 116 wc w.heap.size (fun k_ => some k_ ≠ ((.slice Ao49 t907.length co49) : Value).ownBlock) (.slice Ao15 t885.length co15) t885) ∧ Aside0 (Kd.R Kd.string 9 wc w.heap.size (fun k_ => some k_ ≠ ((.slice Ao13 t878.length co13) : Value).ownBlock ∧ some k_ ≠ ((.slice Ao14 t881.length co14) : Value).ownBlock ∧ some k_ ≠ ((.slice Ao48 t903.length co48) : Value).ownBlock) (.slice Ao47 t900.length co47) t900) ∧ Aside0 (Kd.R Kd.string 9 wc w.heap.size (fun k_ => some k_ ≠ ((.slice Ao13 t878.length co13) : Value).ownBlock ∧ some k_ ≠ ((.slice Ao14 t881.length co14) : Value).ownBlock ∧ some k_ ≠ ((.slice Ao47 t900.length co47) : Value).ownBlock) (.slice Ao48 t903.length co48) t903) ∧ Aside0 (Kd.R k116 116 wc w.heap.size (fun k_ => some k_ ≠ ((.slice Ao15 t885.length co15) : Value).ownBlock) (.slice Ao49 t907.length co49) t907) ∧ Aside0 (wc.heap[gb890]? = some (.cells #[.int .i64 t873, .string t874, .string t875, .int .i64 t876] 25 (0, 0))) ∧ Aside0 (wc.heap[gb891]? = some (.cells #[.string t877, (.slice Ao13 t878.length co13), (.slice Ao14 t881.length co14), .int .i64 t884, (.slice Ao15 t885.length co15), .string t888, .int .i64 t889] 31 (0, 0))) ∧ Aside0 (wc.heap[gb912]? = some (.cells #[.string t899, (.slice Ao47 t900.length co47), (.slice Ao48 t903.length co48), .int .i64 t906, (.slice Ao49 t907.length co49), .string t910, .int .i64 t911] 31 (0, 0))) ∧ Aside0 (wc.heap[gb917]? = some (.cells #[.int .i64 t873, .string t874, .string t875, .int .i64 1000000] 25 (0, 0))) ∧ Aside0 (Below w.heap.size w wc))
     case first =>
      have H := HC61.out
      clear HC61
      by_cases c70 : t873 = 1
      rotate_left
      ·rw [if_neg c70] at H
       have c70b0 : (t873 == 1) = false := beq_eq_false_iff_ne.mpr c70
       have c70b1 : (t873 != 1) = true := bne_iff_ne.mpr c70
       (first | rw [c70b0] | (simp only [i64_w, i32_w]; rw [c70b0]) | skip)
       have H' := am H
       clear H
       have hnb75 := NB890_891.out
       have hnc75 := NB891_890.out
       have hnb76 := NB890_912.out
       have hnc76 := NB912_890.out
       have hnb77 := NB890_917.out
       have hnc77 := NB917_890.out
       obtain ⟨z78_0, y78_0, z78_1, y78_1, z78_2, y78_2, z78_3, y78_3⟩ := cl4 BK890
       go_wp2
       go_meet
       case rel => exact ⟨_, (false), rs, H', ⟨by have := HJ5.out; have := HK2.out; first | omega | exact Nat.le_refl _⟩, ⟨rj (Kd.R_types HO_892001.out BK917.out (by decide)) (fun _ hk => ⟨hk.1.1, ⟨hk.1.2.1, hk.1.2.2⟩⟩)⟩, ⟨rj (Kd.R_types HO_892002.out BK917.out (by decide)) (fun _ hk => ⟨hk.1.1, ⟨hk.1.2.1, hk.1.2.2⟩⟩)⟩, ⟨rj (Kd.R_types HO_892004.out BK917.out (by decide)) (fun _ hk => hk.1)⟩, ⟨rj (Kd.R_types HO_913001.out BK917.out (by decide)) (fun _ hk => ⟨hk.1.1, ⟨hk.1.2.1, hk.1.2.2⟩⟩)⟩, ⟨rj (Kd.R_types HO_913002.out BK917.out (by decide)) (fun _ hk => ⟨hk.1.1, ⟨hk.1.2.1, hk.1.2.2⟩⟩)⟩, ⟨rj (Kd.R_types HO_913004.out BK917.out (by decide)) (fun _ hk => hk.1)⟩, ⟨by (with_reducible repeat (first | refine blk_drewN ?_ _ | refine blk_drew ?_ | refine blk_alloc ?_ _)); refine blk_far ?_ NB890_917.out _; (with_reducible repeat (first | refine blk_drewN ?_ _ | refine blk_drew ?_ | refine blk_alloc ?_ _)); refine blk_far ?_ NB890_917.out _; (with_reducible repeat (first | refine blk_drewN ?_ _ | refine blk_drew ?_ | refine blk_alloc ?_ _)); refine blk_far ?_ NB890_917.out _; (with_reducible repeat (first | refine blk_drewN ?_ _ | refine blk_drew ?_ | refine blk_alloc ?_ _)); refine blk_far ?_ NB890_917.out _; (with_reducible repeat (first | refine blk_drewN ?_ _ | refine blk_drew ?_ | refine blk_alloc ?_ _)); refine blk_far ?_ NB890_917.out _; (with_reducible repeat (first | refine blk_drewN ?_ _ | refine blk_drew ?_ | refine blk_alloc ?_ _)); exact BK890.out⟩, ⟨by (with_reducible repeat (first | refine blk_drewN ?_ _ | refine blk_drew ?_ | refine blk_alloc ?_ _)); refine blk_far ?_ NB891_917.out _; (with_reducible repeat (first | refine blk_drewN ?_ _ | refine blk_drew ?_ | refine blk_alloc ?_ _)); refine blk_far ?_ NB891_917.out _; (with_reducible repeat (first | refine blk_drewN ?_ _ | refine blk_drew ?_ | refine blk_alloc ?_ _)); refine blk_far ?_ NB891_917.out _; (with_reducible repeat (first | refine blk_drewN ?_ _ | refine blk_drew ?_ | refine blk_alloc ?_ _)); refine blk_far ?_ NB891_917.out _; (with_reducible repeat (first | refine blk_drewN ?_ _ | refine blk_drew ?_ | refine blk_alloc ?_ _)); refine blk_far ?_ NB891_917.out _; (with_reducible repeat (first | refine blk_drewN ?_ _ | refine blk_drew ?_ | refine blk_alloc ?_ _)); exact BK891.out⟩, ⟨by (with_reducible repeat (first | refine blk_drewN ?_ _ | refine blk_drew ?_ | refine blk_alloc ?_ _)); refine blk_far ?_ NB912_917.out _; (with_reducible repeat (first | refine blk_drewN ?_ _ | refine blk_drew ?_ | refine blk_alloc ?_ _)); refine blk_far ?_ NB912_917.out _; (with_reducible repeat (first | refine blk_drewN ?_ _ | refine blk_drew ?_ | refine blk_alloc ?_ _)); refine blk_far ?_ NB912_917.out _; (with_reducible repeat (first | refine blk_drewN ?_ _ | refine blk_drew ?_ | refine blk_alloc ?_ _)); refine blk_far ?_ NB912_917.out _; (with_reducible repeat (first | refine blk_drewN ?_ _ | refine blk_drew ?_ | refine blk_alloc ?_ _)); refine blk_far ?_ NB912_917.out _; (with_reducible repeat (first | refine blk_drewN ?_ _ | refine blk_drew ?_ | refine blk_alloc ?_ _)); exact BK912.out⟩, ⟨pt0 BK917⟩, ⟨u3HB⟩⟩
      rw [if_pos c70] at H
      have c70b0 : (t873 == 1) = true := beq_iff_eq.mpr c70
      have c70b1 : (t873 != 1) = false := bne_eq_false_iff_eq.mpr c70
      clear c70
      (first | rw [c70b0] | (simp only [i64_w, i32_w]; rw [c70b0]) | skip)
      have H' := am H
      clear H
      have hnb71 := NB890_891.out
      have hnc71 := NB891_890.out
      have hnb72 := NB890_912.out
      have hnc72 := NB912_890.out
      have hnb73 := NB890_917.out
      have hnc73 := NB917_890.out
      obtain ⟨z74_0, y74_0, z74_1, y74_1, z74_2, y74_2, z74_3, y74_3⟩ := cl4 BK890
      go_wp2
      go_meet
      case rel => exact ⟨_, (t892), rs, H', ⟨by have := HJ5.out; have := HK2.out; first | omega | exact Nat.le_refl _⟩, ⟨rj (Kd.R_types HO_892001.out BK917.out (by decide)) (fun _ hk => ⟨hk.1.1, ⟨hk.1.2.1, hk.1.2.2⟩⟩)⟩, ⟨rj (Kd.R_types HO_892002.out BK917.out (by decide)) (fun _ hk => ⟨hk.1.1, ⟨hk.1.2.1, hk.1.2.2⟩⟩)⟩, ⟨rj (Kd.R_types HO_892004.out BK917.out (by decide)) (fun _ hk => hk.1)⟩, ⟨rj (Kd.R_types HO_913001.out BK917.out (by decide)) (fun _ hk => ⟨hk.1.1, ⟨hk.1.2.1, hk.1.2.2⟩⟩)⟩, ⟨rj (Kd.R_types HO_913002.out BK917.out (by decide)) (fun _ hk => ⟨hk.1.1, ⟨hk.1.2.1, hk.1.2.2⟩⟩)⟩, ⟨rj (Kd.R_types HO_913004.out BK917.out (by decide)) (fun _ hk => hk.1)⟩, ⟨by (with_reducible repeat (first | refine blk_drewN ?_ _ | refine blk_drew ?_ | refine blk_alloc ?_ _)); refine blk_far ?_ NB890_917.out _; (with_reducible repeat (first | refine blk_drewN ?_ _ | refine blk_drew ?_ | refine blk_alloc ?_ _)); refine blk_far ?_ NB890_917.out _; (with_reducible repeat (first | refine blk_drewN ?_ _ | refine blk_drew ?_ | refine blk_alloc ?_ _)); refine blk_far ?_ NB890_917.out _; (with_reducible repeat (first | refine blk_drewN ?_ _ | refine blk_drew ?_ | refine blk_alloc ?_ _)); refine blk_far ?_ NB890_917.out _; (with_reducible repeat (first | refine blk_drewN ?_ _ | refine blk_drew ?_ | refine blk_alloc ?_ _)); refine blk_far ?_ NB890_917.out _; (with_reducible repeat (first | refine blk_drewN ?_ _ | refine blk_drew ?_ | refine blk_alloc ?_ _)); exact BK890.out⟩, ⟨by (with_reducible repeat (first | refine blk_drewN ?_ _ | refine blk_drew ?_ | refine blk_alloc ?_ _)); refine blk_far ?_ NB891_917.out _; (with_reducible repeat (first | refine blk_drewN ?_ _ | refine blk_drew ?_ | refine blk_alloc ?_ _)); refine blk_far ?_ NB891_917.out _; (with_reducible repeat (first | refine blk_drewN ?_ _ | refine blk_drew ?_ | refine blk_alloc ?_ _)); refine blk_far ?_ NB891_917.out _; (with_reducible repeat (first | refine blk_drewN ?_ _ | refine blk_drew ?_ | refine blk_alloc ?_ _)); refine blk_far ?_ NB891_917.out _; (with_reducible repeat (first | refine blk_drewN ?_ _ | refine blk_drew ?_ | refine blk_alloc ?_ _)); refine blk_far ?_ NB891_917.out _; (with_reducible repeat (first | refine blk_drewN ?_ _ | refine blk_drew ?_ | refine blk_alloc ?_ _)); exact BK891.out⟩, ⟨by (with_reducible repeat (first | refine blk_drewN ?_ _ | refine blk_drew ?_ | refine blk_alloc ?_ _)); refine blk_far ?_ NB912_917.out _; (with_reducible repeat (first | refine blk_drewN ?_ _ | refine blk_drew ?_ | refine blk_alloc ?_ _)); refine blk_far ?_ NB912_917.out _; (with_reducible repeat (first | refine blk_drewN ?_ _ | refine blk_drew ?_ | refine blk_alloc ?_ _)); refine blk_far ?_ NB912_917.out _; (with_reducible repeat (first | refine blk_drewN ?_ _ | refine blk_drew ?_ | refine blk_alloc ?_ _)); refine blk_far ?_ NB912_917.out _; (with_reducible repeat (first | refine blk_drewN ?_ _ | refine blk_drew ?_ | refine blk_alloc ?_ _)); refine blk_far ?_ NB912_917.out _; (with_reducible repeat (first | refine blk_drewN ?_ _ | refine blk_drew ?_ | refine blk_alloc ?_ _)); exact BK912.out⟩, ⟨pt0 BK917⟩, ⟨u3HB⟩⟩
     case rest =>
      clear HC61
      try clear c1
      try clear c2
      try clear p2
      try clear c3
      try clear c4
      try clear c5
      try clear c6
      try clear p6
      try clear c7
      try clear p9
      try clear q9
      try clear hx9
      try clear c10
      try clear c11
      try clear c12
      try clear c13
      try clear c16
      try clear c17
      try clear c18
      try clear c18b0
      try clear c18b1
      try clear c18b2
      try clear c19
      try clear c20
      try clear c20b0
      try clear c22
      try clear c24
      try clear c33
      try clear c37
      try clear c41
      try clear c41b0
      try clear c41b1
      try clear c41b2
      try clear c44
      try clear c45
      try clear c54
      try clear c54b0
      try clear c55
      try clear c57
      try clear c57b0
      try clear c62
      try clear c63
      try clear p64
      try clear c66
      try clear c67
      try clear c68
      try clear c70
      try clear c70b0
      try clear c70b1
      try clear c71
      try clear c72
      try clear c73
      try clear c75
      try clear c76
      try clear c77
      try clear z11_0
      try clear z11_1
      try clear z11_2
      try clear z11_3
      try clear z12_0
      try clear z12_1
      try clear z12_2
      try clear z12_3
      try clear z12_4
      try clear z12_5
      try clear z12_6
      try clear z25_0
      try clear z25_1
      try clear z25_2
      try clear z25_3
      try clear z26_0
      try clear z26_1
      try clear z26_2
      try clear z26_3
      try clear z26_4
      try clear z26_5
      try clear z26_6
      try clear z28_0
      try clear z28_1
      try clear z28_2
      try clear z28_3
      try clear z28_4
      try clear z28_5
      try clear z28_6
      try clear z29_0
      try clear z29_1
      try clear z29_2
      try clear z29_3
      try clear z31_0
      try clear z31_1
      try clear z31_2
      try clear z31_3
      try clear z31_4
      try clear z31_5
      try clear z31_6
      try clear z34_0
      try clear z34_1
      try clear z34_2
      try clear z34_3
      try clear z35_0
      try clear z35_1
      try clear z35_2
      try clear z35_3
      try clear z35_4
      try clear z35_5
      try clear z35_6
      try clear z46_0
      try clear z46_1
      try clear z46_2
      try clear z46_3
      try clear z46_4
      try clear z46_5
      try clear z46_6
      try clear z52_0
      try clear z52_1
      try clear z52_2
      try clear z52_3
      try clear z52_4
      try clear z52_5
      try clear z52_6
      try clear z64_0
      try clear z64_1
      try clear z64_2
      try clear z64_3
      try clear z69_0
      try clear z69_1
      try clear z69_2
      try clear z69_3
      try clear z74_0
      try clear z74_1
      try clear z74_2
      try clear z74_3
      try clear z78_0
      try clear z78_1
      try clear z78_2
      try clear z78_3
      try clear y11_0
      try clear y11_1
      try clear y11_2
      try clear y11_3
      try clear y12_0
      try clear y12_1
      try clear y12_2
      try clear y12_3
      try clear y12_4
      try clear y12_5
      try clear y12_6
      try clear y25_0
      try clear y25_1
      try clear y25_2
      try clear y25_3
      try clear y26_0
      try clear y26_1
      try clear y26_2
      try clear y26_3
      try clear y26_4
      try clear y26_5
      try clear y26_6
      try clear y28_0
      try clear y28_1
      try clear y28_2
      try clear y28_3
      try clear y28_4
      try clear y28_5
      try clear y28_6
      try clear y29_0
      try clear y29_1
      try clear y29_2
      try clear y29_3
      try clear y31_0
      try clear y31_1
      try clear y31_2
      try clear y31_3
      try clear y31_4
      try clear y31_5
      try clear y31_6
      try clear y34_0
      try clear y34_1
      try clear y34_2
      try clear y34_3
      try clear y35_0
      try clear y35_1
      try clear y35_2
      try clear y35_3
      try clear y35_4
      try clear y35_5
      try clear y35_6
      try clear y46_0
      try clear y46_1
      try clear y46_2
      try clear y46_3
      try clear y46_4
      try clear y46_5
      try clear y46_6
      try clear y52_0
      try clear y52_1
      try clear y52_2
      try clear y52_3
      try clear y52_4
      try clear y52_5
      try clear y52_6
      try clear y64_0
      try clear y64_1
      try clear y64_2
      try clear y64_3
      try clear y69_0
      try clear y69_1
      try clear y69_2
      try clear y69_3
      try clear y74_0
      try clear y74_1
      try clear y74_2
      try clear y74_3
      try clear y78_0
      try clear y78_1
      try clear y78_2
      try clear y78_3
      try clear hx915_0
      try clear hx915_1
      try clear hx915_2
      try clear hx915_3
      try clear p2
      try clear p915
      try clear q915
      obtain ⟨kq, x83_60, rfl, HA, HJ60, HO_892001, HO_892002, HO_892004, HO_913001, HO_913002, HO_913004, BK890, BK891, BK912, BK917, HB⟩ := hcut
      cases kq with
      | zero => exact absurd HA.out (by simp [laws_FnHits.j2])
      | succ kj60 =>
       have H := HA.out
       clear HA
       simp only [laws_FnHits.j2] at H
       by_cases c79 : x83_60 = true
       rotate_left
       ·replace c79 := Bool.eq_false_iff.mpr c79
        subst c79
        rw [if_neg (show ¬ (false = true) by decide)] at H
        by_cases c117 : (t913 == x9_2) = true
        rotate_left
        ·rw [if_neg c117] at H
         have c117b0 : (t913 == x9_2) = false := by simpa using c117
         (try (have c117b1 : decide (t913 = x9_2) = false := by simpa using c117))
         (try (have c117b2 : (t913 == x9_2) = false := by simpa using c117))
         (try (have c117b3 : ¬ (t913 = x9_2) := by simpa using c117))
         clear c117
         exact absurd (Option.some.inj H) (by rw [ht_]; decide)
        rw [if_pos c117] at H
        have c117b0 : (t913 == x9_2) = true := c117
        (try (have c117b1 : decide (t913 = x9_2) = true := by simpa using c117))
        (try (have c117b2 : (t913 == x9_2) = true := by simpa using c117))
        clear c117
        by_cases c118 : t892 = true
        rotate_left
        ·replace c118 := Bool.eq_false_iff.mpr c118
         subst c118
         rw [if_neg (show ¬ (false = true) by decide)] at H
         obtain rfl := Option.some.inj H
         go_wp2
         go_ret
         exact ⟨rf, bl⟩
        subst c118
        rw [if_pos rfl] at H
        revert H
        refine ok1 fun t921 A119 H => ?_
        obtain rfl := Option.some.inj H
        have hnb120 := NB917_890.out
        have hnc120 := NB890_917.out
        have hnb121 := NB917_891.out
        have hnc121 := NB891_917.out
        have hnb122 := NB917_912.out
        have hnc122 := NB912_917.out
        obtain ⟨z123_0, y123_0, z123_1, y123_1, z123_2, y123_2, z123_3, y123_3⟩ := cl4 BK917
        have hnb124 := NB891_890.out
        have hnc124 := NB890_891.out
        have hnb125 := NB891_912.out
        have hnc125 := NB912_891.out
        obtain ⟨z126_0, y126_0, z126_1, y126_1, z126_2, y126_2, z126_3, y126_3, z126_4, y126_4, z126_5, y126_5, z126_6, y126_6⟩ := cl7 BK891
        go_wp2_with (first | (go_at_call 12; (with_reducible refine (impl_Hits.calls kj60 t873 t874 t875 1000000 t877 _ _ t878 _ _ t881 t884 _ _ t885 t888 t889 t921 _ ?side1 ?side2 ?side3 ?side4 ?side5 ?side6 ?side7 A119.out).mono ?_); (case side1 => exact GLOBM.below HGM.out bl); (case side2 => exact rc HO_892001); (case side3 => exact (Kd.R_reads' HO_892001.out).2.1); (case side4 => exact rc HO_892002); (case side5 => exact (Kd.R_reads' HO_892002.out).2.1); (case side6 => exact rc HO_892004); (case side7 => exact (Kd.R_reads' HO_892004.out).2.1); rintro e w127 ⟨rfl, hb⟩; replace HO_892001 := kr HO_892001 hb; replace HO_892002 := kr HO_892002 hb; replace HO_892004 := kr HO_892004 hb; replace HO_913001 := kr HO_913001 hb; replace HO_913002 := kr HO_913002 hb; replace HO_913004 := kr HO_913004 hb; replace BK890 := kb BK890 hb; replace BK891 := kb BK891 hb; replace BK912 := kb BK912 hb; replace BK917 := kb BK917 hb; replace HB := am (below_step bl hb); clear hb))
        go_ret
        exact ⟨rf, bl⟩
       subst c79
       rw [if_pos rfl] at H
       revert H
       refine ok1 fun t919 A80 H => ?_
       by_cases c81 : t919 = true
       rotate_left
       ·replace c81 := Bool.eq_false_iff.mpr c81
        subst c81
        rw [if_neg (show ¬ (false = true) by decide)] at H
        exact absurd (Option.some.inj H) (by rw [ht_]; decide)
       subst c81
       rw [if_pos rfl] at H
       by_cases c82 : (t913 == x9_2) = true
       rotate_left
       ·rw [if_neg c82] at H
        have c82b0 : (t913 == x9_2) = false := by simpa using c82
        (try (have c82b1 : decide (t913 = x9_2) = false := by simpa using c82))
        (try (have c82b2 : (t913 == x9_2) = false := by simpa using c82))
        (try (have c82b3 : ¬ (t913 = x9_2) := by simpa using c82))
        clear c82
        exact absurd (Option.some.inj H) (by rw [ht_]; decide)
       rw [if_pos c82] at H
       have c82b0 : (t913 == x9_2) = true := c82
       (try (have c82b1 : decide (t913 = x9_2) = true := by simpa using c82))
       (try (have c82b2 : (t913 == x9_2) = true := by simpa using c82))
       clear c82
       by_cases c83 : t892 = true
       rotate_left
       ·replace c83 := Bool.eq_false_iff.mpr c83
        subst c83
        rw [if_neg (show ¬ (false = true) by decide)] at H
        obtain rfl := Option.some.inj H
        have hnb103 := NB890_891.out
        have hnc103 := NB891_890.out
        have hnb104 := NB890_912.out
        have hnc104 := NB912_890.out
        have hnb105 := NB890_917.out
        have hnc105 := NB917_890.out
        obtain ⟨z106_0, y106_0, z106_1, y106_1, z106_2, y106_2, z106_3, y106_3⟩ := cl4 BK890
        go_wp2_with (first | ((with_reducible refine laws_FnHits.gx 12 rfl rfl ?_); refine bx 12 #[.int .i64 0, .string (⟨#[]⟩ : ByteArray), .string (⟨#[]⟩ : ByteArray), .int .i64 0] 25 ?_; intro gb918 hg w107 hbox hb; replace HO_892001 := am (Kd.R_below (ro HO_892001) hb); replace HO_892002 := am (Kd.R_below (ro HO_892002) hb); replace HO_892004 := am (Kd.R_below (ro HO_892004) hb); replace HO_913001 := am (Kd.R_below (ro HO_913001) hb); replace HO_913002 := am (Kd.R_below (ro HO_913002) hb); replace HO_913004 := am (Kd.R_below (ro HO_913004) hb); have BK918 := am (hbox); have GW918 := am (sz hg : w.heap.size ≤ gb918); have GE918 := am (sz hg : w.heap.size ≤ gb918); replace HB := am (below_step bl hb); have NB890_918 := am (nl hg BK890 : gb890 ≠ gb918); have NB918_890 := am (ng hg BK890 : gb918 ≠ gb890); replace BK890 := kb BK890 hb; have NB891_918 := am (nl hg BK891 : gb891 ≠ gb918); have NB918_891 := am (ng hg BK891 : gb918 ≠ gb891); replace BK891 := kb BK891 hb; have NB912_918 := am (nl hg BK912 : gb912 ≠ gb918); have NB918_912 := am (ng hg BK912 : gb918 ≠ gb912); replace BK912 := kb BK912 hb; have NB917_918 := am (nl hg BK917 : gb917 ≠ gb918); have NB918_917 := am (ng hg BK917 : gb918 ≠ gb917); replace BK917 := kb BK917 hb; clear hb hbox hg; have hnb108 := NB918_890.out; have hnc108 := NB890_918.out; have hnb109 := NB918_891.out; have hnc109 := NB891_918.out; have hnb110 := NB918_912.out; have hnc110 := NB912_918.out; have hnb111 := NB918_917.out; have hnc111 := NB917_918.out; obtain ⟨z112_0, y112_0, z112_1, y112_1, z112_2, y112_2, z112_3, y112_3⟩ := cl4 BK918; have hnb113 := NB891_912.out; have hnc113 := NB912_891.out; have hnb114 := NB891_917.out; have hnc114 := NB917_891.out; obtain ⟨z115_0, y115_0, z115_1, y115_1, z115_2, y115_2, z115_3, y115_3, z115_4, y115_4, z115_5, y115_5, z115_6, y115_6⟩ := cl7 BK891) | ((with_reducible refine laws_FnHits.gx 88 rfl rfl ?_); refine gl 88 Tryz.func12 #[.agg #[.int .i64 2, .string t874, .string t875, .int .i64 t876], .agg #[.string t877, .slice Ao13 t878.length co13, .slice Ao14 t881.length co14, .int .i64 t884, .slice Ao15 t885.length co15, .string t888, .int .i64 t889]] ?_; (with_reducible refine (impl_Hits.calls kj60 2 t874 t875 t876 t877 _ _ t878 _ _ t881 t884 _ _ t885 t888 t889 true _ ?side1 ?side2 ?side3 ?side4 ?side5 ?side6 ?side7 A80.out).mono ?_); (case side1 => exact GLOBM.below HGM.out bl); (case side2 => refine (Kd.R_reads' (e := 9) (base := w.heap.size) (ok := fun k_ => (some k_ ≠ (.slice Ao14 t881.length co14 : Value).ownBlock ∧ (some k_ ≠ (.slice Ao47 t900.length co47 : Value).ownBlock ∧ some k_ ≠ (.slice Ao48 t903.length co48 : Value).ownBlock))) (n := t878.length) (c := co13) ?_).2.2; exact (rj (Kd.R_types HO_892001.out BK918.out (by decide)) (fun _ h_ => h_.1))); (case side3 => exact (Kd.R_reads' HO_892001.out).2.1); (case side4 => refine (Kd.R_reads' (e := 9) (base := w.heap.size) (ok := fun k_ => (some k_ ≠ (.slice Ao13 t878.length co13 : Value).ownBlock ∧ (some k_ ≠ (.slice Ao47 t900.length co47 : Value).ownBlock ∧ some k_ ≠ (.slice Ao48 t903.length co48 : Value).ownBlock))) (n := t881.length) (c := co14) ?_).2.2; exact (rj (Kd.R_types HO_892002.out BK918.out (by decide)) (fun _ h_ => h_.1))); (case side5 => exact (Kd.R_reads' HO_892002.out).2.1); (case side6 => refine (Kd.R_reads' (e := 116) (base := w.heap.size) (ok := fun k_ => some k_ ≠ (.slice Ao49 t907.length co49 : Value).ownBlock) (n := t885.length) (c := co15) ?_).2.2; exact (rj (Kd.R_types HO_892004.out BK918.out (by decide)) (fun _ h_ => h_.1))); (case side7 => exact (Kd.R_reads' HO_892004.out).2.1); rintro e w116 ⟨rfl, hb⟩; refine ⟨_, rfl, ?_⟩; replace HO_892001 := am (Kd.R_below (rj (Kd.R_types HO_892001.out BK918.out (by decide)) (fun _ h_ => h_.1)) hb); replace HO_892002 := am (Kd.R_below (rj (Kd.R_types HO_892002.out BK918.out (by decide)) (fun _ h_ => h_.1)) hb); replace HO_892004 := am (Kd.R_below (rj (Kd.R_types HO_892004.out BK918.out (by decide)) (fun _ h_ => h_.1)) hb); replace HO_913001 := am (Kd.R_below (rj (Kd.R_types HO_913001.out BK918.out (by decide)) (fun _ h_ => h_.1)) hb); replace HO_913002 := am (Kd.R_below (rj (Kd.R_types HO_913002.out BK918.out (by decide)) (fun _ h_ => h_.1)) hb); replace HO_913004 := am (Kd.R_below (rj (Kd.R_types HO_913004.out BK918.out (by decide)) (fun _ h_ => h_.1)) hb); replace BK890 := kg1 BK890 NB890_918 hb; replace BK891 := kg1 BK891 NB891_918 hb; replace BK912 := kg1 BK912 NB912_918 hb; replace BK917 := kg1 BK917 NB917_918 hb; replace BK918 := am (blk_below (g := gb918) (o := .cells #[.int .i64 2, .string t874, .string t875, .int .i64 t876] 25 (0, 0)) (pt0 BK918) hb); replace HB := am (below_step bl hb); clear hb))
        go_ret
        exact ⟨rf, bl⟩
       subst c83
       rw [if_pos rfl] at H
       revert H
       refine ok1 fun t920 A84 H => ?_
       obtain rfl := Option.some.inj H
       have hnb85 := NB890_891.out
       have hnc85 := NB891_890.out
       have hnb86 := NB890_912.out
       have hnc86 := NB912_890.out
       have hnb87 := NB890_917.out
       have hnc87 := NB917_890.out
       obtain ⟨z88_0, y88_0, z88_1, y88_1, z88_2, y88_2, z88_3, y88_3⟩ := cl4 BK890
       go_wp2_with (first | ((with_reducible refine laws_FnHits.gx 12 rfl rfl ?_); refine bx 12 #[.int .i64 0, .string (⟨#[]⟩ : ByteArray), .string (⟨#[]⟩ : ByteArray), .int .i64 0] 25 ?_; intro gb918 hg w89 hbox hb; replace HO_892001 := am (Kd.R_below (ro HO_892001) hb); replace HO_892002 := am (Kd.R_below (ro HO_892002) hb); replace HO_892004 := am (Kd.R_below (ro HO_892004) hb); replace HO_913001 := am (Kd.R_below (ro HO_913001) hb); replace HO_913002 := am (Kd.R_below (ro HO_913002) hb); replace HO_913004 := am (Kd.R_below (ro HO_913004) hb); have BK918 := am (hbox); have GW918 := am (sz hg : w.heap.size ≤ gb918); have GE918 := am (sz hg : w.heap.size ≤ gb918); replace HB := am (below_step bl hb); have NB890_918 := am (nl hg BK890 : gb890 ≠ gb918); have NB918_890 := am (ng hg BK890 : gb918 ≠ gb890); replace BK890 := kb BK890 hb; have NB891_918 := am (nl hg BK891 : gb891 ≠ gb918); have NB918_891 := am (ng hg BK891 : gb918 ≠ gb891); replace BK891 := kb BK891 hb; have NB912_918 := am (nl hg BK912 : gb912 ≠ gb918); have NB918_912 := am (ng hg BK912 : gb918 ≠ gb912); replace BK912 := kb BK912 hb; have NB917_918 := am (nl hg BK917 : gb917 ≠ gb918); have NB918_917 := am (ng hg BK917 : gb918 ≠ gb917); replace BK917 := kb BK917 hb; clear hb hbox hg; have hnb90 := NB918_890.out; have hnc90 := NB890_918.out; have hnb91 := NB918_891.out; have hnc91 := NB891_918.out; have hnb92 := NB918_912.out; have hnc92 := NB912_918.out; have hnb93 := NB918_917.out; have hnc93 := NB917_918.out; obtain ⟨z94_0, y94_0, z94_1, y94_1, z94_2, y94_2, z94_3, y94_3⟩ := cl4 BK918; have hnb95 := NB891_912.out; have hnc95 := NB912_891.out; have hnb96 := NB891_917.out; have hnc96 := NB917_891.out; obtain ⟨z97_0, y97_0, z97_1, y97_1, z97_2, y97_2, z97_3, y97_3, z97_4, y97_4, z97_5, y97_5, z97_6, y97_6⟩ := cl7 BK891) | ((with_reducible refine laws_FnHits.gx 88 rfl rfl ?_); refine gl 88 Tryz.func12 #[.agg #[.int .i64 2, .string t874, .string t875, .int .i64 t876], .agg #[.string t877, .slice Ao13 t878.length co13, .slice Ao14 t881.length co14, .int .i64 t884, .slice Ao15 t885.length co15, .string t888, .int .i64 t889]] ?_; (with_reducible refine (impl_Hits.calls kj60 2 t874 t875 t876 t877 _ _ t878 _ _ t881 t884 _ _ t885 t888 t889 true _ ?side1 ?side2 ?side3 ?side4 ?side5 ?side6 ?side7 A80.out).mono ?_); (case side1 => exact GLOBM.below HGM.out bl); (case side2 => refine (Kd.R_reads' (e := 9) (base := w.heap.size) (ok := fun k_ => (some k_ ≠ (.slice Ao14 t881.length co14 : Value).ownBlock ∧ (some k_ ≠ (.slice Ao47 t900.length co47 : Value).ownBlock ∧ some k_ ≠ (.slice Ao48 t903.length co48 : Value).ownBlock))) (n := t878.length) (c := co13) ?_).2.2; exact (rj (Kd.R_types HO_892001.out BK918.out (by decide)) (fun _ h_ => h_.1))); (case side3 => exact (Kd.R_reads' HO_892001.out).2.1); (case side4 => refine (Kd.R_reads' (e := 9) (base := w.heap.size) (ok := fun k_ => (some k_ ≠ (.slice Ao13 t878.length co13 : Value).ownBlock ∧ (some k_ ≠ (.slice Ao47 t900.length co47 : Value).ownBlock ∧ some k_ ≠ (.slice Ao48 t903.length co48 : Value).ownBlock))) (n := t881.length) (c := co14) ?_).2.2; exact (rj (Kd.R_types HO_892002.out BK918.out (by decide)) (fun _ h_ => h_.1))); (case side5 => exact (Kd.R_reads' HO_892002.out).2.1); (case side6 => refine (Kd.R_reads' (e := 116) (base := w.heap.size) (ok := fun k_ => some k_ ≠ (.slice Ao49 t907.length co49 : Value).ownBlock) (n := t885.length) (c := co15) ?_).2.2; exact (rj (Kd.R_types HO_892004.out BK918.out (by decide)) (fun _ h_ => h_.1))); (case side7 => exact (Kd.R_reads' HO_892004.out).2.1); rintro e w98 ⟨rfl, hb⟩; refine ⟨_, rfl, ?_⟩; replace HO_892001 := am (Kd.R_below (rj (Kd.R_types HO_892001.out BK918.out (by decide)) (fun _ h_ => h_.1)) hb); replace HO_892002 := am (Kd.R_below (rj (Kd.R_types HO_892002.out BK918.out (by decide)) (fun _ h_ => h_.1)) hb); replace HO_892004 := am (Kd.R_below (rj (Kd.R_types HO_892004.out BK918.out (by decide)) (fun _ h_ => h_.1)) hb); replace HO_913001 := am (Kd.R_below (rj (Kd.R_types HO_913001.out BK918.out (by decide)) (fun _ h_ => h_.1)) hb); replace HO_913002 := am (Kd.R_below (rj (Kd.R_types HO_913002.out BK918.out (by decide)) (fun _ h_ => h_.1)) hb); replace HO_913004 := am (Kd.R_below (rj (Kd.R_types HO_913004.out BK918.out (by decide)) (fun _ h_ => h_.1)) hb); replace BK890 := kg1 BK890 NB890_918 hb; replace BK891 := kg1 BK891 NB891_918 hb; replace BK912 := kg1 BK912 NB912_918 hb; replace BK917 := kg1 BK917 NB917_918 hb; replace BK918 := am (blk_below (g := gb918) (o := .cells #[.int .i64 2, .string t874, .string t875, .int .i64 t876] 25 (0, 0)) (pt0 BK918) hb); replace HB := am (below_step bl hb); clear hb; have hnb99 := NB917_912.out; have hnc99 := NB912_917.out; obtain ⟨z100_0, y100_0, z100_1, y100_1, z100_2, y100_2, z100_3, y100_3⟩ := cl4 BK917; obtain ⟨z101_0, y101_0, z101_1, y101_1, z101_2, y101_2, z101_3, y101_3, z101_4, y101_4, z101_5, y101_5, z101_6, y101_6⟩ := cl7 BK891) | (go_at_call 12; (with_reducible refine (impl_Hits.calls kj60 t873 t874 t875 1000000 t877 _ _ t878 _ _ t881 t884 _ _ t885 t888 t889 t920 _ ?side1 ?side2 ?side3 ?side4 ?side5 ?side6 ?side7 A84.out).mono ?_); (case side1 => exact GLOBM.below HGM.out bl); (case side2 => exact rc HO_892001); (case side3 => exact (Kd.R_reads' HO_892001.out).2.1); (case side4 => exact rc HO_892002); (case side5 => exact (Kd.R_reads' HO_892002.out).2.1); (case side6 => exact rc HO_892004); (case side7 => exact (Kd.R_reads' HO_892004.out).2.1); rintro e w102 ⟨rfl, hb⟩; replace HO_892001 := kr HO_892001 hb; replace HO_892002 := kr HO_892002 hb; replace HO_892004 := kr HO_892004 hb; replace HO_913001 := kr HO_913001 hb; replace HO_913002 := kr HO_913002 hb; replace HO_913004 := kr HO_913004 hb; replace BK890 := kb BK890 hb; replace BK891 := kb BK891 hb; replace BK912 := kb BK912 hb; replace BK917 := kb BK917 hb; replace BK918 := kb BK918 hb; replace HB := am (below_step bl hb); clear hb))
       go_ret
       exact ⟨rf, bl⟩

end Go.Proofs.YtjlpjbkpmmpojaaGreatDoor.All
