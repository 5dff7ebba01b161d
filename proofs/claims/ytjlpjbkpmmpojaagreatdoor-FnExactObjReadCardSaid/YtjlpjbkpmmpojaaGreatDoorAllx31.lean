-- Written by a program of this session (wip/tools/hprint.py) out of the translation. Lean checks it.
import Derived.Test.YtjlpjbkpmmpojaaGreatDoorAllx0
import Derived.Test.YtjlpjbkpmmpojaaGreatDoorAllx1
import Derived.Test.YtjlpjbkpmmpojaaGreatDoorAllx7
import Derived.Test.YtjlpjbkpmmpojaaGreatDoorAllx12
import Derived.Test.YtjlpjbkpmmpojaaGreatDoorAllx19
import Derived.Test.YtjlpjbkpmmpojaaGreatDoorAllx25
import Derived.Test.YtjlpjbkpmmpojaaGreatDoorAllx29
import Derived.Test.YtjlpjbkpmmpojaaGreatDoorAllx30
namespace Go.Proofs.YtjlpjbkpmmpojaaGreatDoor.All
open Go.RowKit Go.Proofs.YtjlpjbkpmmpojaaGreatDoorW.PrintWords Go.Proofs.YtjlpjbkpmmpojaaGreatDoorW.PrintLast Go.Proofs.YtjlpjbkpmmpojaaGreatDoorW.PrintMore
attribute [local go_sem] max2_int min2_int max_two min_two max_three min_three max_four min_four   -- for this text's walks alone
set_option linter.unusedVariables false
set_option linter.unusedSimpArgs false

/-! ### spec_ObjRead: function 37 -/
theorem u37HB {p : Prop} (h : p := by repeat (first | (with_reducible first | exact HB.out | apply below_alloc | apply pw_below_drewN | apply below_drew1 | refine below_set ?_ GE1358.out | refine below_set ?_ GE1371.out) | exact HB.out)) : p := h
mutual
def spec_ObjRead.j0 : Nat → ByteArray → Int → List ByteArray → Bool → Option (ByteArray × List ByteArray × List ByteArray × Int × (List (S116)) × ByteArray × Int × Bool)
 | 0, _, _, _, _ => none
 | k + 1, x0, x5, x6, x28 => if x28 = true then (some ((⟨#[]⟩ : ByteArray), ([] : List ByteArray), ([] : List ByteArray), 0, ([] : List (S116)), (⟨#[]⟩ : ByteArray), 0, false)) else (if 2 < (x6.length : Int) then ((spec_NumRead.f k (rdOf ByteArray.empty x6 2)).bind fun bt1365 => (if 3 < (x6.length : Int) then ((spec_NumRead.f k (rdOf ByteArray.empty x6 3)).bind fun bt1368 => (if 1 < (x6.length : Int) then (spec_ObjRead.l0 k x0 x5 bt1368.1 0 (rdOf ByteArray.empty x6 1) ([] : List ByteArray) 0 (⟨#[]⟩ : ByteArray) bt1365.1) else (none))) else (none))) else (none))
def spec_ObjRead.j2 : Nat → ByteArray → Int → ByteArray → List ByteArray → Int → ByteArray → Int → Option (ByteArray × List ByteArray × List ByteArray × Int × (List (S116)) × ByteArray × Int × Bool)
 | 0, _, _, _, _, _, _, _ => none
 | k + 1, x0, x5, x1372000, x1372002, x1372003, x1372005, x1372006 => if x5 < 0 then (some ((⟨#[]⟩ : ByteArray), ([] : List ByteArray), ([] : List ByteArray), 0, ([] : List (S116)), (⟨#[]⟩ : ByteArray), 0, false)) else (if 0 ≤ x5 then (if x5 ≤ (x0.size : Int) then ((spec_RespRead.f k (x0.extract (x5 : Int).toNat x0.size)).bind fun bt1377 => ((spec_VaryOf.f k bt1377.2.1).bind fun t1383 => ((spec_ObjText.f k x1372000 t1383 x1372002 bt1377.1 bt1377.2.1 bt1377.2.2.1 x1372006).bind fun t1386 => (if t1386.toList = x0.toList then (some (x1372000, t1383, x1372002, bt1377.1, bt1377.2.1, bt1377.2.2.1, x1372006, true)) else (some ((⟨#[]⟩ : ByteArray), ([] : List ByteArray), ([] : List ByteArray), 0, ([] : List (S116)), (⟨#[]⟩ : ByteArray), 0, false)))))) else (none)) else (none))
def spec_ObjRead.l0 : Nat → ByteArray → Int → Int → Int → ByteArray → List ByteArray → Int → ByteArray → Int → Option (ByteArray × List ByteArray × List ByteArray × Int × (List (S116)) × ByteArray × Int × Bool)
 | 0, _, _, _, _, _, _, _, _, _ => none
 | k + 1, x0, x5, x9, x12, x1372000, x1372002, x1372003, x1372005, x1372006 => if x12 < x9 then (if x12 < 4 then (if x5 ≥ 0 then ((spec_l10Line.f k x0 x5).bind fun bt1372 => (if x1372002.length < 8796093022208 then (spec_ObjRead.l0 k x0 bt1372.2 x9 (wrap64 (x12 + 1)) x1372000 (x1372002 ++ [bt1372.1]) x1372003 x1372005 x1372006) else (none))) else (spec_ObjRead.j2 k x0 x5 x1372000 x1372002 x1372003 x1372005 x1372006)) else (spec_ObjRead.j2 k x0 x5 x1372000 x1372002 x1372003 x1372005 x1372006)) else (spec_ObjRead.j2 k x0 x5 x1372000 x1372002 x1372003 x1372005 x1372006)
end
def spec_ObjRead.f (k : Nat) (a0 : ByteArray) : Option (ByteArray × List ByteArray × List ByteArray × Int × (List (S116)) × ByteArray × Int × Bool) := (spec_l10Line.f k a0 0).bind fun bt1359 => ((spec_l3Words.f k bt1359.1).bind fun t1361 => (if bt1359.2 < 0 then (spec_ObjRead.j0 k a0 bt1359.2 t1361 true) else (spec_ObjRead.j0 k a0 bt1359.2 t1361 ((t1361.length : Int) != 4))))
theorem spec_ObjRead.mono_l : ∀ k, (∀ y0 y1 y2 y3, LeO (spec_ObjRead.j0 k y0 y1 y2 y3) (spec_ObjRead.j0 (k + 1) y0 y1 y2 y3)) ∧ (∀ y0 y1 y2 y3 y4 y5 y6, LeO (spec_ObjRead.j2 k y0 y1 y2 y3 y4 y5 y6) (spec_ObjRead.j2 (k + 1) y0 y1 y2 y3 y4 y5 y6)) ∧ (∀ y0 y1 y2 y3 y4 y5 y6 y7 y8, LeO (spec_ObjRead.l0 k y0 y1 y2 y3 y4 y5 y6 y7 y8) (spec_ObjRead.l0 (k + 1) y0 y1 y2 y3 y4 y5 y6 y7 y8))
 | 0 => ⟨fun _ _ _ _ r h => by simp [spec_ObjRead.j0] at h, fun _ _ _ _ _ _ _ r h => by simp [spec_ObjRead.j2] at h, fun _ _ _ _ _ _ _ _ _ r h => by simp [spec_ObjRead.l0] at h⟩
 | k + 1 => by
  obtain ⟨ih0, ih1, ih2⟩ := spec_ObjRead.mono_l k
  refine ⟨?_, ?_, ?_⟩
  ·intro y0 y1 y2 y3
   unfold spec_ObjRead.j0
   have m0 := @spec_NumRead.mono
   have m1 := @spec_ObjText.mono
   have m2 := @spec_RespRead.mono
   have m3 := @spec_VaryOf.mono
   have m4 := @spec_l10Line.mono
   have m5 := @spec_l3Words.mono
   exact mo
  ·intro y0 y1 y2 y3 y4 y5 y6
   unfold spec_ObjRead.j2
   have m0 := @spec_NumRead.mono
   have m1 := @spec_ObjText.mono
   have m2 := @spec_RespRead.mono
   have m3 := @spec_VaryOf.mono
   have m4 := @spec_l10Line.mono
   have m5 := @spec_l3Words.mono
   exact mo
  ·intro y0 y1 y2 y3 y4 y5 y6 y7 y8
   unfold spec_ObjRead.l0
   have m0 := @spec_NumRead.mono
   have m1 := @spec_ObjText.mono
   have m2 := @spec_RespRead.mono
   have m3 := @spec_VaryOf.mono
   have m4 := @spec_l10Line.mono
   have m5 := @spec_l3Words.mono
   exact mo
theorem spec_ObjRead.mono : ∀ a0 k, LeO (spec_ObjRead.f k a0) (spec_ObjRead.f (k + 1) a0) := by
 intro a0 k
 obtain ⟨ih0, ih1, ih2⟩ := spec_ObjRead.mono_l k
 unfold spec_ObjRead.f
 have m0 := @spec_NumRead.mono
 have m1 := @spec_ObjText.mono
 have m2 := @spec_RespRead.mono
 have m3 := @spec_VaryOf.mono
 have m4 := @spec_l10Line.mono
 have m5 := @spec_l3Words.mono
 exact mo
set_option maxHeartbeats 8000000 in
set_option maxRecDepth 100000 in
theorem spec_ObjRead.calls (k : Nat) (a0 : ByteArray) (r1 : ByteArray) (r2 : List ByteArray) (r3 : List ByteArray) (r4 : Int) (r5 : List (S116)) (r6 : ByteArray) (r7 : Int) (r8 : Bool) (w : World) (h : spec_ObjRead.f k a0 = some (r1, r2, r3, r4, r5, r6, r7, r8)) :
  Calls Tryz.prog 37 #[.string a0] w fun e w' => ∃ v1_ v2_ v4_ : Value, e = .returned (.tuple #[.agg #[.string r1, v1_, v2_, .int .i64 r4, v4_, .string r6, .int .i64 r7], .bool r8]) ∧ Kd.R Kd.string 9 w' w.heap.size (fun k_ => some k_ ≠ (v2_ : Value).ownBlock) v1_ r2 ∧ Kd.R Kd.string 9 w' w.heap.size (fun k_ => some k_ ≠ (v1_ : Value).ownBlock) v2_ r3 ∧ Kd.R k116 116 w' w.heap.size (fun _ => True) v4_ r5 ∧ Below w.heap.size w w' := by
 have hu31 := Tryz.underlying31
 have hu29 := Tryz.underlying29
 have HB := am (Below.refl w.heap.size w)
 unfold spec_ObjRead.f at h
 have H := h
 clear h
 revert H
 refine ok2 fun t1359 t1360 A2 H => ?_
 (try dsimp only at H)
 revert H
 refine ok1 fun t1361 A3 H => ?_
 have HC4 := am H
 clear H
 go_enter Tryz.func37, Tryz.ntmps37
 go_upto_region 3 with (first | ((with_reducible refine gate_dst (N := 2) rfl ?_); (try (refine gate_guard (by rfl) ?_; dsimp only)); refine box_event ?hg (N := 2) ?hd (cs := #[.string (⟨#[]⟩ : ByteArray), .slice none 0 0, .slice none 0 0, .int .i64 0, .slice none 0 0, .string (⟨#[]⟩ : ByteArray), .int .i64 0]) (t := 31) ?hr ?_; (case hd => rfl); (case hg => rfl); (case hr => first | (go_simp; done) | (go_simp; rfl)); intro gb1358 hg w5 hbox hb; have BK1358 := am (hbox); have GW1358 := am (sz hg : w.heap.size ≤ gb1358); have GE1358 := am (sz hg : w.heap.size ≤ gb1358); replace HB := am (below_step bl hb); clear hb hbox hg) | ((with_reducible refine gw ?_); first | (refine gl 17 Tryz.func104 #[.string a0, .int .i64 0] ?_; (with_reducible refine (spec_l10Line.calls k a0 0 t1359 t1360 _ A2.out).mono ?_); rintro e w' ⟨rfl, ⟨nd, rfl⟩⟩; refine ⟨_, rfl, ?_⟩) | (refine gl 21 Tryz.func105 #[.string t1359] ?_; (with_reducible refine (spec_l3Words.calls k t1359 t1361 _ A3.out).mono ?_); rintro e w6 ⟨v1362, rfl, ho0, hb⟩; refine ⟨_, rfl, ?_⟩; have HO1363 := am (Kd.R_lower ho0 (below_size bl)); replace BK1358 := kb BK1358 hb; replace HB := am (below_step bl hb); clear hb ho0)))
 (try simp only [Act.put, List.setIfInBounds_toArray, List.set_cons_zero, List.set_cons_succ])
 go_cut [28] (fun v28 wc => ∃ (kq : Nat) (x28_3 : Bool), v28 = .bool x28_3 ∧ Aside0 (spec_ObjRead.j0 kq a0 t1360 t1361 x28_3 = some (r1, r2, r3, r4, r5, r6, r7, r8)) ∧ Aside0 (kq ≤ k) ∧ Aside0 (Kd.R Kd.string 9 wc w.heap.size (fun _ => True) v1362 t1361) ∧ Aside0 (wc.heap[gb1358]? = some (.cells #[.string (⟨#[]⟩ : ByteArray), (.slice none 0 0), (.slice none 0 0), .int .i64 0, (.slice none 0 0), .string (⟨#[]⟩ : ByteArray), .int .i64 0] 31 (0, 0))) ∧ Aside0 (Below w.heap.size w wc))
 case first =>
  have H := HC4.out
  clear HC4
  by_cases c7 : t1360 < 0
  ·rw [if_pos c7] at H
   have c7b0 := decide_eq_true c7
   clear c7
   (first | rw [c7b0] | (simp only [i64_w, i32_w]; rw [c7b0]) | skip)
   have H' := am H
   clear H
   go_wp2
   go_meet
   case rel => exact ⟨_, (true), rs, H', ⟨by first | omega | exact Nat.le_refl _⟩, ⟨by (with_reducible repeat (first | apply Kd.R_alloc | apply Kd.R_drewN | apply Kd.R_drew)); exact HO1363.out⟩, ⟨by (with_reducible repeat (first | refine blk_drewN ?_ _ | refine blk_drew ?_ | refine blk_alloc ?_ _)); exact BK1358.out⟩, ⟨u37HB⟩⟩
  rw [if_neg c7] at H
  have c7b0 := decide_eq_false c7
  clear c7
  (first | rw [c7b0] | (simp only [i64_w, i32_w]; rw [c7b0]) | skip)
  have H' := am H
  clear H
  obtain ⟨Ao8, co8, eo8⟩ := Kd.R_slice HO1363.out
  subst eo8
  go_wp2
  go_meet
  case rel => exact ⟨_, (((t1361.length : Int) != 4)), rs, H', ⟨by first | omega | exact Nat.le_refl _⟩, ⟨by (with_reducible repeat (first | apply Kd.R_alloc | apply Kd.R_drewN | apply Kd.R_drew)); exact HO1363.out⟩, ⟨by (with_reducible repeat (first | refine blk_drewN ?_ _ | refine blk_drew ?_ | refine blk_alloc ?_ _)); exact BK1358.out⟩, ⟨u37HB⟩⟩
 case rest =>
  clear HC4
  try clear c1
  try clear p2
  try clear c3
  try clear c7
  try clear c7b0
  obtain ⟨kq, x28_3, rfl, HA, HJ3, HO_6, BK1358, HB⟩ := hcut
  cases kq with
  | zero => exact absurd HA.out (by simp [spec_ObjRead.j0])
  | succ kj3 =>
   have H := HA.out
   clear HA
   simp only [spec_ObjRead.j0] at H
   by_cases c9 : x28_3 = true
   ·subst c9
    rw [if_pos rfl] at H
    simp only [Option.some.injEq, Prod.mk.injEq] at H
    obtain ⟨rfl, rfl, rfl, rfl, rfl, rfl, rfl, rfl⟩ := H
    obtain ⟨z10_0, y10_0, z10_1, y10_1, z10_2, y10_2, z10_3, y10_3, z10_4, y10_4, z10_5, y10_5, z10_6, y10_6⟩ := cl7 BK1358
    go_wp2
    refine bodyPost_ret (results_ct rfl _ _ gb1358 31 #[.string (⟨#[]⟩ : ByteArray), .slice none 0 0, .slice none 0 0, .int .i64 0, .slice none 0 0, .string (⟨#[]⟩ : ByteArray), .int .i64 0] (0, 0) _ rfl (pt0 BK1358) Tryz.underlying31 rfl (by kernel_rfl)) rfl ?_
    exact ⟨_, _, _, rf, by first | exact Kd.R_nil _ _ _ _ _ | exact Kd.N_nil _ _ _ _ _ | exact Kd.V_nil _ _ _ _ _ | exact Kd.Q_nil _ _ _ _ _ | exact Kd.S_nil _ _ _ _ _, by first | exact Kd.R_nil _ _ _ _ _ | exact Kd.N_nil _ _ _ _ _ | exact Kd.V_nil _ _ _ _ _ | exact Kd.Q_nil _ _ _ _ _ | exact Kd.S_nil _ _ _ _ _, by first | exact Kd.R_nil _ _ _ _ _ | exact Kd.N_nil _ _ _ _ _ | exact Kd.V_nil _ _ _ _ _ | exact Kd.Q_nil _ _ _ _ _ | exact Kd.S_nil _ _ _ _ _, bl⟩
   replace c9 := Bool.eq_false_iff.mpr c9
   subst c9
   rw [if_neg (show ¬ (false = true) by decide)] at H
   revert H
   refine ifn fun c11 H => ?_
   have c11b0 := decide_eq_true c11
   have c11b1 : decide (2 < t1361.length) = true := decide_eq_true (by omega)
   clear c11
   revert H
   refine ok2 fun t1365 t1366 A12 H => ?_
   (try dsimp only at H)
   revert H
   refine ifn fun c13 H => ?_
   have c13b0 := decide_eq_true c13
   have c13b1 : decide (3 < t1361.length) = true := decide_eq_true (by omega)
   clear c13
   revert H
   refine ok2 fun t1368 t1369 A14 H => ?_
   (try dsimp only at H)
   revert H
   refine ifn fun c15 H => ?_
   have c15b0 := decide_eq_true c15
   have c15b1 : decide (1 < t1361.length) = true := decide_eq_true (by omega)
   clear c15
   have HC16 := am H
   clear H
   obtain ⟨Ao17, co17, eo17⟩ := Kd.R_slice HO_6.out
   subst eo17
   have p1364 : 0 ≤ (2 : Int) := (by omega)
   have q1364 : 2 < (t1361.length : Int) := od
   obtain ⟨ad1364, e1364, hx1364_0⟩ := Kd.at_string (Kd.R_reads' HO_6.out).2.2 2 p1364 q1364
   cases e1364
   (try simp only [show (2 : Int).toNat = 2 from rfl, Nat.reduceMul, Nat.reduceEqDiff, Go.Addr.add, ↓reduceIte] at hx1364_0)
   have qi1364 : (2 < t1361.length) = True := eq_true (by omega)
   (try rw [show ((2 : Int)).toNat = 2 from rfl] at hx1364_0)
   replace p1364 := eq_true p1364
   replace q1364 := eq_true q1364
   go_upto_block 0 with (first | ((with_reducible refine gw ?_); first | (refine gl 34 Tryz.func106 #[.string (rdOf ByteArray.empty t1361 2)] ?_; (with_reducible refine (spec_NumRead.calls kj3 (rdOf ByteArray.empty t1361 2) t1365 t1366 _ A12.out).mono ?_); rintro e w18 ⟨rfl, hb⟩; refine ⟨_, rfl, ?_⟩; replace HO_6 := kr HO_6 hb; replace BK1358 := kb BK1358 hb; replace HB := am (below_step bl hb); clear hb; have p1367 : 0 ≤ (3 : Int) := (by omega); have q1367 : 3 < (t1361.length : Int) := od; obtain ⟨ad1367, e1367, hx1367_0⟩ := Kd.at_string (Kd.R_reads' HO_6.out).2.2 3 p1367 q1367; obtain rfl : ad1364 = ad1367 := (by injection e1367); (try simp only [show (3 : Int).toNat = 3 from rfl, Nat.reduceMul, Nat.reduceEqDiff, Go.Addr.add, ↓reduceIte] at hx1367_0); have qi1367 : (3 < t1361.length) = True := eq_true (by omega); (try rw [show ((3 : Int)).toNat = 3 from rfl] at hx1367_0); replace p1367 := eq_true p1367; replace q1367 := eq_true q1367) | (refine gl 41 Tryz.func106 #[.string (rdOf ByteArray.empty t1361 3)] ?_; (with_reducible refine (spec_NumRead.calls kj3 (rdOf ByteArray.empty t1361 3) t1368 t1369 _ A14.out).mono ?_); rintro e w19 ⟨rfl, hb⟩; refine ⟨_, rfl, ?_⟩; replace HO_6 := kr HO_6 hb; replace BK1358 := kb BK1358 hb; replace HB := am (below_step bl hb); clear hb; have p1370 : 0 ≤ (1 : Int) := (by omega); have q1370 : 1 < (t1361.length : Int) := od; obtain ⟨ad1370, e1370, hx1370_0⟩ := Kd.at_string (Kd.R_reads' HO_6.out).2.2 1 p1370 q1370; obtain rfl : ad1364 = ad1370 := (by injection e1370); (try simp only [show (1 : Int).toNat = 1 from rfl, Nat.reduceMul, Nat.reduceEqDiff, Go.Addr.add, ↓reduceIte] at hx1370_0); have qi1370 : (1 < t1361.length) = True := eq_true (by omega); (try rw [show ((1 : Int)).toNat = 1 from rfl] at hx1370_0); replace p1370 := eq_true p1370; replace q1370 := eq_true q1370)) | ((with_reducible refine gate_dst (N := 11) rfl ?_); (try (refine gate_guard (by rfl) ?_; dsimp only)); refine box_event ?hg (N := 11) ?hd (cs := #[.string (⟨#[]⟩ : ByteArray), .slice none 0 0, .slice none 0 0, .int .i64 0, .slice none 0 0, .string (⟨#[]⟩ : ByteArray), .int .i64 0]) (t := 31) ?hr ?_; (case hd => rfl); (case hg => rfl); (case hr => first | (go_simp; done) | (go_simp; rfl)); intro gb1371 hg w20 hbox hb; replace HO_6 := am (Kd.R_below (ro HO_6) hb); have BK1371 := am (hbox); have GW1371 := am (sz hg : w.heap.size ≤ gb1371); have GE1371 := am (sz hg : w.heap.size ≤ gb1371); replace HB := am (below_step bl hb); have NB1358_1371 := am (nl hg BK1358 : gb1358 ≠ gb1371); have NB1371_1358 := am (ng hg BK1358 : gb1371 ≠ gb1358); replace BK1358 := kb BK1358 hb; clear hb hbox hg; have hnb21 := NB1371_1358.out; have hnc21 := NB1358_1371.out; obtain ⟨z22_0, y22_0, z22_1, y22_1, z22_2, y22_2, z22_3, y22_3, z22_4, y22_4, z22_5, y22_5, z22_6, y22_6⟩ := cl7 BK1371))
   (try simp only [Act.put, List.setIfInBounds_toArray, List.set_cons_zero, List.set_cons_succ])
   go_cut [5] (fun v5 wc => ∃ (kq : Nat) (x5_15 : Int) (x1372002_15 : List ByteArray) (u1372002 : Value), v5 = .int .i64 x5_15 ∧ Aside0 (spec_ObjRead.j2 kq a0 x5_15 (rdOf ByteArray.empty t1361 1) x1372002_15 0 (⟨#[]⟩ : ByteArray) t1365 = some (r1, r2, r3, r4, r5, r6, r7, r8)) ∧ Aside0 (kq ≤ kj3) ∧ Aside0 (Kd.R Kd.string 9 wc w.heap.size (fun _ => True) u1372002 x1372002_15) ∧ Aside0 (wc.heap[gb1358]? = some (.cells #[.string (⟨#[]⟩ : ByteArray), (.slice none 0 0), (.slice none 0 0), .int .i64 0, (.slice none 0 0), .string (⟨#[]⟩ : ByteArray), .int .i64 0] 31 (0, 0))) ∧ Aside0 (wc.heap[gb1371]? = some (.cells #[.string (rdOf ByteArray.empty t1361 1), (.slice none 0 0), u1372002, .int .i64 0, (.slice none 0 0), .string (⟨#[]⟩ : ByteArray), .int .i64 t1365] 31 (0, 0))) ∧ Aside0 (Below w.heap.size w wc))
   case first =>
    have H := HC16.out
    clear HC16
    have H' := am H
    clear H
    go_wp2
    (try simp only [Act.put, List.setIfInBounds_toArray, List.set_cons_zero, List.set_cons_succ])
    go_loopg [5, 12] kj3 (fun kq v5 v12 w' => ∃ (x5_2 : Int) (x12_2 : Int) (x1372002_2 : List ByteArray) (u1372002 : Value), v5 = .int .i64 x5_2 ∧ v12 = .int .i64 x12_2 ∧ Aside0 (spec_ObjRead.l0 kq a0 x5_2 t1368 x12_2 (rdOf ByteArray.empty t1361 1) x1372002_2 0 (⟨#[]⟩ : ByteArray) t1365 = some (r1, r2, r3, r4, r5, r6, r7, r8)) ∧ Aside0 (kq ≤ kj3) ∧ Aside0 (Kd.R Kd.string 9 w' w.heap.size (fun _ => True) u1372002 x1372002_2) ∧ Aside0 (w'.heap[gb1358]? = some (.cells #[.string (⟨#[]⟩ : ByteArray), (.slice none 0 0), (.slice none 0 0), .int .i64 0, (.slice none 0 0), .string (⟨#[]⟩ : ByteArray), .int .i64 0] 31 (0, 0))) ∧ Aside0 (w'.heap[gb1371]? = some (.cells #[.string (rdOf ByteArray.empty t1361 1), (.slice none 0 0), u1372002, .int .i64 0, (.slice none 0 0), .string (⟨#[]⟩ : ByteArray), .int .i64 t1365] 31 (0, 0))) ∧ Aside0 (Below w.heap.size w w'))
    case atStart => exact ⟨(t1360), (0), (([] : List ByteArray)), (.slice none 0 0), rs, rs, H', ⟨Nat.le_refl _⟩, ⟨by first | exact Kd.R_nil _ _ _ _ _ | exact Kd.N_nil _ _ _ _ _ | exact Kd.V_nil _ _ _ _ _ | exact Kd.Q_nil _ _ _ _ _ | exact Kd.S_nil _ _ _ _ _⟩, ⟨by (with_reducible repeat (first | refine blk_drewN ?_ _ | refine blk_drew ?_ | refine blk_alloc ?_ _)); refine blk_far ?_ NB1358_1371.out _; (with_reducible repeat (first | refine blk_drewN ?_ _ | refine blk_drew ?_ | refine blk_alloc ?_ _)); refine blk_far ?_ NB1358_1371.out _; (with_reducible repeat (first | refine blk_drewN ?_ _ | refine blk_drew ?_ | refine blk_alloc ?_ _)); refine blk_far ?_ NB1358_1371.out _; (with_reducible repeat (first | refine blk_drewN ?_ _ | refine blk_drew ?_ | refine blk_alloc ?_ _)); refine blk_far ?_ NB1358_1371.out _; (with_reducible repeat (first | refine blk_drewN ?_ _ | refine blk_drew ?_ | refine blk_alloc ?_ _)); refine blk_far ?_ NB1358_1371.out _; (with_reducible repeat (first | refine blk_drewN ?_ _ | refine blk_drew ?_ | refine blk_alloc ?_ _)); refine blk_far ?_ NB1358_1371.out _; (with_reducible repeat (first | refine blk_drewN ?_ _ | refine blk_drew ?_ | refine blk_alloc ?_ _)); refine blk_far ?_ NB1358_1371.out _; (with_reducible repeat (first | refine blk_drewN ?_ _ | refine blk_drew ?_ | refine blk_alloc ?_ _)); exact BK1358.out⟩, ⟨pt0 BK1371⟩, ⟨u37HB⟩⟩
    case round =>
     clear H'
     try clear c1
     try clear p1
     try clear q1
     try clear hx1
     try clear qi1
     try clear c2
     try clear p2
     try clear c3
     try clear c7
     try clear c7b0
     try clear c9
     try clear c10
     try clear c11
     try clear c11b0
     try clear c11b1
     try clear c13
     try clear c13b0
     try clear c13b1
     try clear p13
     try clear q13
     try clear hx13
     try clear qi13
     try clear c15
     try clear c15b0
     try clear c15b1
     try clear c21
     try clear z10_0
     try clear z10_1
     try clear z10_2
     try clear z10_3
     try clear z10_4
     try clear z10_5
     try clear z10_6
     try clear z22_0
     try clear z22_1
     try clear z22_2
     try clear z22_3
     try clear z22_4
     try clear z22_5
     try clear z22_6
     try clear y10_0
     try clear y10_1
     try clear y10_2
     try clear y10_3
     try clear y10_4
     try clear y10_5
     try clear y10_6
     try clear y22_0
     try clear y22_1
     try clear y22_2
     try clear y22_3
     try clear y22_4
     try clear y22_5
     try clear y22_6
     try clear hx1364_0
     try clear hx1367_0
     try clear hx1370_0
     try clear p1364
     try clear p1367
     try clear p1370
     try clear p2
     try clear q1364
     try clear q1367
     try clear q1370
     obtain ⟨x5_2, x12_2, x1372002_2, u1372002, rfl, rfl, HA, HK2, HO_1372002, BK1358, BK1371, HB⟩ := hrel
     cases gk with
     | zero => exact absurd HA.out (by simp [spec_ObjRead.l0])
     | succ k2 =>
      have H := HA.out
      clear HA
      simp only [spec_ObjRead.l0] at H
      by_cases c23 : x12_2 < t1368
      rotate_left
      ·rw [if_neg c23] at H
       have c23b0 := decide_eq_false c23
       clear c23
       (first | rw [c23b0] | (simp only [i64_w, i32_w]; rw [c23b0]) | skip)
       have H' := am H
       clear H
       go_wp2
       go_meet
       case rel => exact ⟨_, (x5_2), (x1372002_2), (u1372002), rs, H', ⟨by have := HJ3.out; have := HK2.out; first | omega | exact Nat.le_refl _⟩, ⟨by (with_reducible repeat (first | apply Kd.R_alloc | apply Kd.R_drewN | apply Kd.R_drew)); exact HO_1372002.out⟩, ⟨by (with_reducible repeat (first | refine blk_drewN ?_ _ | refine blk_drew ?_ | refine blk_alloc ?_ _)); exact BK1358.out⟩, ⟨by (with_reducible repeat (first | refine blk_drewN ?_ _ | refine blk_drew ?_ | refine blk_alloc ?_ _)); exact BK1371.out⟩, ⟨u37HB⟩⟩
      rw [if_pos c23] at H
      have c23b0 := decide_eq_true c23
      clear c23
      (first | rw [c23b0] | (simp only [i64_w, i32_w]; rw [c23b0]) | skip)
      by_cases c24 : x12_2 < 4
      rotate_left
      ·rw [if_neg c24] at H
       have c24b0 := decide_eq_false c24
       clear c24
       have H' := am H
       clear H
       go_wp2
       go_meet
       case rel => exact ⟨_, (x5_2), (x1372002_2), (u1372002), rs, H', ⟨by have := HJ3.out; have := HK2.out; first | omega | exact Nat.le_refl _⟩, ⟨by (with_reducible repeat (first | apply Kd.R_alloc | apply Kd.R_drewN | apply Kd.R_drew)); exact HO_1372002.out⟩, ⟨by (with_reducible repeat (first | refine blk_drewN ?_ _ | refine blk_drew ?_ | refine blk_alloc ?_ _)); exact BK1358.out⟩, ⟨by (with_reducible repeat (first | refine blk_drewN ?_ _ | refine blk_drew ?_ | refine blk_alloc ?_ _)); exact BK1371.out⟩, ⟨u37HB⟩⟩
      rw [if_pos c24] at H
      have c24b0 := decide_eq_true c24
      clear c24
      by_cases c25 : x5_2 ≥ 0
      rotate_left
      ·rw [if_neg c25] at H
       have c25b0 := decide_eq_false c25
       clear c25
       have H' := am H
       clear H
       go_wp2
       go_meet
       case rel => exact ⟨_, (x5_2), (x1372002_2), (u1372002), rs, H', ⟨by have := HJ3.out; have := HK2.out; first | omega | exact Nat.le_refl _⟩, ⟨by (with_reducible repeat (first | apply Kd.R_alloc | apply Kd.R_drewN | apply Kd.R_drew)); exact HO_1372002.out⟩, ⟨by (with_reducible repeat (first | refine blk_drewN ?_ _ | refine blk_drew ?_ | refine blk_alloc ?_ _)); exact BK1358.out⟩, ⟨by (with_reducible repeat (first | refine blk_drewN ?_ _ | refine blk_drew ?_ | refine blk_alloc ?_ _)); exact BK1371.out⟩, ⟨u37HB⟩⟩
      rw [if_pos c25] at H
      have c25b0 := decide_eq_true c25
      clear c25
      revert H
      refine ok2 fun t1372 t1373 A26 H => ?_
      (try dsimp only at H)
      revert H
      refine ifn fun c27 H => ?_
      have LMc27 := am c27
      clear c27
      obtain ⟨y1374, hy1374⟩ : ∃ y_ : List ByteArray, y_ = (x1372002_2 ++ [t1372]) := ⟨_, rfl⟩
      replace H : (spec_ObjRead.l0 k2 a0 t1373 t1368 (wrap64 (x12_2 + 1)) (rdOf ByteArray.empty t1361 1) y1374 0 (⟨#[]⟩ : ByteArray) t1365) = some (r1, r2, r3, r4, r5, r6, r7, r8) := by first | (rw [hy1374]; with_reducible exact H) | (have H2_ := (Option.bind_some _ _).symm.trans H; rw [hy1374]; with_reducible exact H2_) | (have H2_ := (Option.bind_some _ _).symm.trans H; with_reducible exact H2_) | with_reducible exact H | (rw [hy1374]; exact H) | exact H
      have Ny1374 := am hy1374
      clear hy1374
      have H' := am H
      clear H
      go_wp2_with (first | ((with_reducible refine gw ?_); first | (refine gl 65 Tryz.func104 #[.string a0, .int .i64 x5_2] ?_; (with_reducible refine (spec_l10Line.calls k2 a0 x5_2 t1372 t1373 _ A26.out).mono ?_); rintro e w' ⟨rfl, ⟨nd, rfl⟩⟩; refine ⟨_, rfl, ?_⟩; (try (rw [drewN_self wr]; generalize hq_ : World.drewN wr _ = wr; have n0_ : Aside0 (Kd.R Kd.string 9 wr w.heap.size (fun _ => True) u1372002 x1372002_2) := ⟨by rw [← hq_]; exact (ro HO_1372002)⟩; have n1_ : Aside0 (wr.heap[gb1358]? = some (.cells #[.string (⟨#[]⟩ : ByteArray), .slice none 0 0, .slice none 0 0, .int .i64 0, .slice none 0 0, .string (⟨#[]⟩ : ByteArray), .int .i64 0] 31 (0, 0))) := ⟨by rw [← hq_]; exact (bk BK1358)⟩; have n2_ : Aside0 (wr.heap[gb1371]? = some (.cells #[.string (rdOf ByteArray.empty t1361 1), .slice none 0 0, u1372002, .int .i64 0, .slice none 0 0, .string (⟨#[]⟩ : ByteArray), .int .i64 t1365] 31 (0, 0))) := ⟨by rw [← hq_]; exact (bk BK1371)⟩; have n3_ : Aside0 (Below w.heap.size w wr) := ⟨by rw [← hq_]; exact bl⟩; clear HO_1372002 BK1358 BK1371 HB hq_; have HO_1372002 := n0_; have BK1358 := n1_; have BK1371 := n2_; have HB := n3_; clear n0_ n1_ n2_ n3_)); have hnb28 := NB1371_1358.out; have hnc28 := NB1358_1371.out; obtain ⟨z29_0, y29_0, z29_1, y29_1, z29_2, y29_2, z29_3, y29_3, z29_4, y29_4, z29_5, y29_5, z29_6, y29_6⟩ := cl7 BK1371)) | ((with_reducible refine gate_builtin (b := .append) (xs := #[.tmp 69, .tmp 71]) rfl ?_); (try (refine gate_guard (by rfl) ?_; dsimp only)); at_builtin; refine Kd.R_append Kd.string (w0 := w) w.heap.size rfl (.tmp 69) (.tmp 71) 26 9 (.string ⟨#[]⟩) 16 rfl Tryz.underlying26 info9 rfl (by decide) (by omega) u1372002 x1372002_2 t1372 [.string t1372] (fun _ => True) (fun _ => False) rfl rfl ?aP (fun _ hk => hk.elim) ?aF ?aO ?aB ?aS ?aL ?_; (case aP => exact rfl); (case aB => exact bl); (case aF => exact (fun _ _ => trivial)); (case aO => exact (ro HO_1372002)); (case aS => exact (below_size bl)); (case aL => have := LMc27.out; omega); intro v1375 w30 ho hb hg hat; rw [← Ny1374.out] at ho; have n0_ := am (blk_grown (g := gb1358) (o := .cells #[.string (⟨#[]⟩ : ByteArray), .slice none 0 0, .slice none 0 0, .int .i64 0, .slice none 0 0, .string (⟨#[]⟩ : ByteArray), .int .i64 0] 31 (0, 0)) (bk BK1358) hg (Kd.R_ne HO_1372002.out BK1358.out (by decide))); have n1_ := am (blk_grown (g := gb1371) (o := .cells #[.string (rdOf ByteArray.empty t1361 1), .slice none 0 0, u1372002, .int .i64 0, .slice none 0 0, .string (⟨#[]⟩ : ByteArray), .int .i64 t1365] 31 (0, 0)) (bk BK1371) hg (Kd.R_ne HO_1372002.out BK1371.out (by decide))); have n2_ := am (hb); have n3_ := am (ho); clear BK1358; clear BK1371; clear HB; clear HO_1372002; have BK1358 := n0_; have BK1371 := n1_; have HB := n2_; have HO1376 := n3_; clear n0_ n1_ n2_ n3_; clear ho hb hg hat; obtain ⟨Ao31, co31, eo31⟩ := Kd.R_slice HO1376.out; subst eo31; obtain ⟨z32_0, y32_0, z32_1, y32_1, z32_2, y32_2, z32_3, y32_3, z32_4, y32_4, z32_5, y32_5, z32_6, y32_6⟩ := cl7 BK1371))
      go_roundg k2
      case measure => have := HJ3.out; have := HK2.out; omega
      case rel => exact ⟨(t1373), (wrap64 (x12_2 + 1)), (y1374), (.slice Ao31 y1374.length co31), rs, rs, H', ⟨by have := HJ3.out; have := HK2.out; omega⟩, ⟨rg (Kd.R_types HO1376.out BK1371.out (by decide))⟩, ⟨by (with_reducible repeat (first | refine blk_drewN ?_ _ | refine blk_drew ?_ | refine blk_alloc ?_ _)); refine blk_far ?_ NB1358_1371.out _; (with_reducible repeat (first | refine blk_drewN ?_ _ | refine blk_drew ?_ | refine blk_alloc ?_ _)); exact BK1358.out⟩, ⟨pt0 BK1371⟩, ⟨u37HB⟩⟩
   case rest =>
    clear HC16
    try clear c1
    try clear p1
    try clear q1
    try clear hx1
    try clear qi1
    try clear c2
    try clear p2
    try clear c3
    try clear p6
    try clear c7
    try clear c7b0
    try clear c9
    try clear c10
    try clear c11
    try clear c11b0
    try clear c11b1
    try clear c13
    try clear c13b0
    try clear c13b1
    try clear p13
    try clear q13
    try clear hx13
    try clear qi13
    try clear c15
    try clear c15b0
    try clear c15b1
    try clear c21
    try clear c23
    try clear c23b0
    try clear c24
    try clear c24b0
    try clear c25
    try clear c25b0
    try clear c27
    try clear c28
    try clear z10_0
    try clear z10_1
    try clear z10_2
    try clear z10_3
    try clear z10_4
    try clear z10_5
    try clear z10_6
    try clear z22_0
    try clear z22_1
    try clear z22_2
    try clear z22_3
    try clear z22_4
    try clear z22_5
    try clear z22_6
    try clear z29_0
    try clear z29_1
    try clear z29_2
    try clear z29_3
    try clear z29_4
    try clear z29_5
    try clear z29_6
    try clear z32_0
    try clear z32_1
    try clear z32_2
    try clear z32_3
    try clear z32_4
    try clear z32_5
    try clear z32_6
    try clear y10_0
    try clear y10_1
    try clear y10_2
    try clear y10_3
    try clear y10_4
    try clear y10_5
    try clear y10_6
    try clear y22_0
    try clear y22_1
    try clear y22_2
    try clear y22_3
    try clear y22_4
    try clear y22_5
    try clear y22_6
    try clear y29_0
    try clear y29_1
    try clear y29_2
    try clear y29_3
    try clear y29_4
    try clear y29_5
    try clear y29_6
    try clear y32_0
    try clear y32_1
    try clear y32_2
    try clear y32_3
    try clear y32_4
    try clear y32_5
    try clear y32_6
    try clear hx1364_0
    try clear hx1367_0
    try clear hx1370_0
    try clear p1
    try clear p13
    try clear p1364
    try clear p1367
    try clear p1370
    try clear p2
    try clear q1
    try clear q13
    try clear q1364
    try clear q1367
    try clear q1370
    obtain ⟨kq, x5_15, x1372002_15, u1372002, rfl, HA, HJ15, HO_1372002, BK1358, BK1371, HB⟩ := hcut
    cases kq with
    | zero => exact absurd HA.out (by simp [spec_ObjRead.j2])
    | succ kj15 =>
     have H := HA.out
     clear HA
     simp only [spec_ObjRead.j2] at H
     by_cases c33 : x5_15 < 0
     ·rw [if_pos c33] at H
      have c33b0 := decide_eq_true c33
      clear c33
      simp only [Option.some.injEq, Prod.mk.injEq] at H
      obtain ⟨rfl, rfl, rfl, rfl, rfl, rfl, rfl, rfl⟩ := H
      have hnb34 := NB1358_1371.out
      have hnc34 := NB1371_1358.out
      obtain ⟨z35_0, y35_0, z35_1, y35_1, z35_2, y35_2, z35_3, y35_3, z35_4, y35_4, z35_5, y35_5, z35_6, y35_6⟩ := cl7 BK1358
      go_wp2
      refine bodyPost_ret (results_ct rfl _ _ gb1358 31 #[.string (⟨#[]⟩ : ByteArray), .slice none 0 0, .slice none 0 0, .int .i64 0, .slice none 0 0, .string (⟨#[]⟩ : ByteArray), .int .i64 0] (0, 0) _ rfl (pt0 BK1358) Tryz.underlying31 rfl (by kernel_rfl)) rfl ?_
      exact ⟨_, _, _, rf, by first | exact Kd.R_nil _ _ _ _ _ | exact Kd.N_nil _ _ _ _ _ | exact Kd.V_nil _ _ _ _ _ | exact Kd.Q_nil _ _ _ _ _ | exact Kd.S_nil _ _ _ _ _, by first | exact Kd.R_nil _ _ _ _ _ | exact Kd.N_nil _ _ _ _ _ | exact Kd.V_nil _ _ _ _ _ | exact Kd.Q_nil _ _ _ _ _ | exact Kd.S_nil _ _ _ _ _, by first | exact Kd.R_nil _ _ _ _ _ | exact Kd.N_nil _ _ _ _ _ | exact Kd.V_nil _ _ _ _ _ | exact Kd.Q_nil _ _ _ _ _ | exact Kd.S_nil _ _ _ _ _, bl⟩
     rw [if_neg c33] at H
     have c33b0 := decide_eq_false c33
     clear c33
     revert H
     refine ifn fun c36 H => ?_
     have c36b0 := eq_true c36
     have c36b1 := decide_eq_true c36
     clear c36
     revert H
     refine ifn fun c37 H => ?_
     have c37b0 := eq_true c37
     have c37b1 := decide_eq_true c37
     clear c37
     revert H
     refine ok4 fun t1377 t1378 t1381 t1382 A38 H => ?_
     (try dsimp only at H)
     revert H
     refine ok1 fun t1383 A39 H => ?_
     revert H
     refine ok1 fun t1386 A40 H => ?_
     have HH41 := am H
     clear H
     go_upto_if 94 with ((with_reducible refine gw ?_); first | (refine gl 82 Tryz.func107 #[.string (a0.extract (x5_15 : Int).toNat a0.size)] ?_; (with_reducible refine (spec_RespRead.calls kj15 (a0.extract (x5_15 : Int).toNat a0.size) t1377 t1378 t1381 t1382 _ A38.out).mono ?_); rintro e w42 ⟨v1379, rfl, ho0, hb⟩; refine ⟨_, rfl, ?_⟩; replace HO_1372002 := kr HO_1372002 hb; have HO1380 := am (Kd.R_lower ho0 (below_size bl)); replace BK1358 := kb BK1358 hb; replace BK1371 := kb BK1371 hb; replace HB := am (below_step bl hb); clear hb ho0; have hnb43 := NB1371_1358.out; have hnc43 := NB1358_1371.out; obtain ⟨z44_0, y44_0, z44_1, y44_1, z44_2, y44_2, z44_3, y44_3, z44_4, y44_4, z44_5, y44_5, z44_6, y44_6⟩ := cl7 BK1371; obtain ⟨Ao45, co45, eo45⟩ := Kd.R_slice HO1380.out; subst eo45) | (refine gl 89 Tryz.func94 #[.slice Ao45 t1378.length co45] ?_; (with_reducible refine (spec_VaryOf.calls kj15 _ _ t1378 t1383 _ ?side1 ?side2 A39.out).mono ?_); (case side1 => refine (Kd.R_reads' (e := 116) (base := w.heap.size) (ok := fun k_ => True) (n := t1378.length) (c := co45) ?_).2.2; exact (by (with_reducible repeat (first | apply Kd.R_alloc | apply Kd.R_drewN | apply Kd.R_drew)); exact (Kd.R_mono (Kd.R_far (p := ⟨gb1371, 5, none⟩) (Kd.R_far (p := ⟨gb1371, 4, none⟩) (Kd.R_far (p := ⟨gb1371, 3, none⟩) (Kd.R_types HO1380.out BK1371.out (by decide)) (fun _ hk => hk.2) (.int .i64 t1377)) (fun _ hk => hk.2) (.slice Ao45 t1378.length co45)) (fun _ hk => hk.2) (.string t1381)) (fun _ h_ => h_.1)))); (case side2 => exact (Kd.R_reads' HO1380.out).2.1); rintro e w46 ⟨v1384, rfl, ho0, hb⟩; refine ⟨_, rfl, ?_⟩; have n0_ := am (Kd.R_elder' (by (with_reducible repeat (first | apply Kd.R_alloc | apply Kd.R_drewN | apply Kd.R_drew)); exact (Kd.R_mono (Kd.R_far (p := ⟨gb1371, 5, none⟩) (Kd.R_far (p := ⟨gb1371, 4, none⟩) (Kd.R_far (p := ⟨gb1371, 3, none⟩) (Kd.R_types HO_1372002.out BK1371.out (by decide)) (fun _ hk => hk.2) (.int .i64 t1377)) (fun _ hk => hk.2) (.slice Ao45 t1378.length co45)) (fun _ hk => hk.2) (.string t1381)) (fun _ h_ => h_.1))) (Kd.R_base ho0) hb); have n1_ := am (Kd.R_below (by (with_reducible repeat (first | apply Kd.R_alloc | apply Kd.R_drewN | apply Kd.R_drew)); exact (Kd.R_mono (Kd.R_far (p := ⟨gb1371, 5, none⟩) (Kd.R_far (p := ⟨gb1371, 4, none⟩) (Kd.R_far (p := ⟨gb1371, 3, none⟩) (Kd.R_types HO1380.out BK1371.out (by decide)) (fun _ hk => hk.2) (.int .i64 t1377)) (fun _ hk => hk.2) (.slice Ao45 t1378.length co45)) (fun _ hk => hk.2) (.string t1381)) (fun _ h_ => h_.1))) hb); have n2_ := am (Kd.R_lower (Kd.R_new' ho0 (Kd.R_lt (by (with_reducible repeat (first | apply Kd.R_alloc | apply Kd.R_drewN | apply Kd.R_drew)); exact (Kd.R_mono (Kd.R_far (p := ⟨gb1371, 5, none⟩) (Kd.R_far (p := ⟨gb1371, 4, none⟩) (Kd.R_far (p := ⟨gb1371, 3, none⟩) (Kd.R_types HO_1372002.out BK1371.out (by decide)) (fun _ hk => hk.2) (.int .i64 t1377)) (fun _ hk => hk.2) (.slice Ao45 t1378.length co45)) (fun _ hk => hk.2) (.string t1381)) (fun _ h_ => h_.1))))) (below_size bl)); have n3_ := kg1 BK1358 NB1358_1371 hb; have n4_ := am (blk_below (g := gb1371) (o := .cells #[.string (rdOf ByteArray.empty t1361 1), .slice none 0 0, u1372002, .int .i64 t1377, .slice Ao45 t1378.length co45, .string t1381, .int .i64 t1365] 31 (0, 0)) (pt0 BK1371) hb); have n5_ := am (below_step bl hb); clear HO_1372002; clear HO1380; clear BK1358; clear BK1371; clear HB; have HO_1372002 := n0_; have HO1380 := n1_; have HO1385 := n2_; have BK1358 := n3_; have BK1371 := n4_; have HB := n5_; clear n0_ n1_ n2_ n3_ n4_ n5_; clear hb ho0; obtain ⟨Ao47, co47, eo47⟩ := Kd.R_slice HO1385.out; subst eo47; obtain ⟨z48_0, y48_0, z48_1, y48_1, z48_2, y48_2, z48_3, y48_3, z48_4, y48_4, z48_5, y48_5, z48_6, y48_6⟩ := cl7 BK1371; obtain ⟨Ao49, co49, eo49⟩ := Kd.R_slice HO_1372002.out; subst eo49) | (refine gl 92 Tryz.func56 #[.agg #[.string (rdOf ByteArray.empty t1361 1), .slice Ao47 t1383.length co47, .slice Ao49 x1372002_15.length co49, .int .i64 t1377, .slice Ao45 t1378.length co45, .string t1381, .int .i64 t1365]] ?_; (with_reducible refine (spec_ObjText.calls kj15 (rdOf ByteArray.empty t1361 1) _ _ t1383 _ _ x1372002_15 t1377 _ _ t1378 t1381 t1365 t1386 _ ?side1 ?side2 ?side3 ?side4 ?side5 ?side6 A40.out).mono ?_); (case side1 => refine (Kd.R_reads' (e := 9) (base := w.heap.size) (ok := fun k_ => (True ∧ some k_ ≠ (.slice Ao49 x1372002_15.length co49 : Value).ownBlock)) (n := t1383.length) (c := co47) ?_).2.2; exact (by (with_reducible repeat (first | apply Kd.R_alloc | apply Kd.R_drewN | apply Kd.R_drew)); exact (Kd.R_mono (Kd.R_far (p := ⟨gb1371, 1, none⟩) (Kd.R_types HO1385.out BK1371.out (by decide)) (fun _ hk => hk.2) (.slice Ao47 t1383.length co47)) (fun _ h_ => h_.1)))); (case side2 => exact (Kd.R_reads' HO1385.out).2.1); (case side3 => refine (Kd.R_reads' (e := 9) (base := w.heap.size) (ok := fun k_ => (True ∧ some k_ ≠ (.slice Ao47 t1383.length co47 : Value).ownBlock)) (n := x1372002_15.length) (c := co49) ?_).2.2; exact (by (with_reducible repeat (first | apply Kd.R_alloc | apply Kd.R_drewN | apply Kd.R_drew)); exact (Kd.R_mono (Kd.R_far (p := ⟨gb1371, 1, none⟩) (Kd.R_types HO_1372002.out BK1371.out (by decide)) (fun _ hk => hk.2) (.slice Ao47 t1383.length co47)) (fun _ h_ => h_.1)))); (case side4 => exact (Kd.R_reads' HO_1372002.out).2.1); (case side5 => refine (Kd.R_reads' (e := 116) (base := w.heap.size) (ok := fun k_ => True) (n := t1378.length) (c := co45) ?_).2.2; exact (by (with_reducible repeat (first | apply Kd.R_alloc | apply Kd.R_drewN | apply Kd.R_drew)); exact (Kd.R_mono (Kd.R_far (p := ⟨gb1371, 1, none⟩) (Kd.R_types HO1380.out BK1371.out (by decide)) (fun _ hk => hk.2) (.slice Ao47 t1383.length co47)) (fun _ h_ => h_.1)))); (case side6 => exact (Kd.R_reads' HO1380.out).2.1); rintro e w50 ⟨rfl, hb⟩; refine ⟨_, rfl, ?_⟩; have n0_ := am (Kd.R_below (by (with_reducible repeat (first | apply Kd.R_alloc | apply Kd.R_drewN | apply Kd.R_drew)); exact (Kd.R_mono (Kd.R_far (p := ⟨gb1371, 1, none⟩) (Kd.R_types HO_1372002.out BK1371.out (by decide)) (fun _ hk => hk.2) (.slice Ao47 t1383.length co47)) (fun _ h_ => h_.1))) hb); have n1_ := am (Kd.R_below (by (with_reducible repeat (first | apply Kd.R_alloc | apply Kd.R_drewN | apply Kd.R_drew)); exact (Kd.R_mono (Kd.R_far (p := ⟨gb1371, 1, none⟩) (Kd.R_types HO1380.out BK1371.out (by decide)) (fun _ hk => hk.2) (.slice Ao47 t1383.length co47)) (fun _ h_ => h_.1))) hb); have n2_ := am (Kd.R_below (by (with_reducible repeat (first | apply Kd.R_alloc | apply Kd.R_drewN | apply Kd.R_drew)); exact (Kd.R_mono (Kd.R_far (p := ⟨gb1371, 1, none⟩) (Kd.R_types HO1385.out BK1371.out (by decide)) (fun _ hk => hk.2) (.slice Ao47 t1383.length co47)) (fun _ h_ => h_.1))) hb); have n3_ := kg1 BK1358 NB1358_1371 hb; have n4_ := am (blk_below (g := gb1371) (o := .cells #[.string (rdOf ByteArray.empty t1361 1), .slice Ao47 t1383.length co47, .slice Ao49 x1372002_15.length co49, .int .i64 t1377, .slice Ao45 t1378.length co45, .string t1381, .int .i64 t1365] 31 (0, 0)) (pt0 BK1371) hb); have n5_ := am (below_step bl hb); clear HO_1372002; clear HO1380; clear HO1385; clear BK1358; clear BK1371; clear HB; have HO_1372002 := n0_; have HO1380 := n1_; have HO1385 := n2_; have BK1358 := n3_; have BK1371 := n4_; have HB := n5_; clear n0_ n1_ n2_ n3_ n4_ n5_; clear hb))
     have H := HH41.out
     clear HH41
     by_cases c51 : t1386.toList = a0.toList
     ·rw [if_pos c51] at H
      have c51b0 : (t1386.toList == a0.toList) = true := beq_iff_eq.mpr c51
      have c51b1 : (t1386.toList != a0.toList) = false := bne_eq_false_iff_eq.mpr c51
      clear c51
      (first | rw [c51b0] | (simp only [i64_w, i32_w]; rw [c51b0]) | skip)
      simp only [Option.some.injEq, Prod.mk.injEq] at H
      obtain ⟨rfl, rfl, rfl, rfl, rfl, rfl, rfl, rfl⟩ := H
      have hnb52 := NB1371_1358.out
      have hnc52 := NB1358_1371.out
      obtain ⟨z53_0, y53_0, z53_1, y53_1, z53_2, y53_2, z53_3, y53_3, z53_4, y53_4, z53_5, y53_5, z53_6, y53_6⟩ := cl7 BK1371
      obtain ⟨z54_0, y54_0, z54_1, y54_1, z54_2, y54_2, z54_3, y54_3, z54_4, y54_4, z54_5, y54_5, z54_6, y54_6⟩ := cl7 BK1358
      go_wp2
      refine bodyPost_ret (results_ct rfl _ _ gb1358 31 #[.string (rdOf ByteArray.empty t1361 1), .slice Ao47 t1383.length co47, .slice Ao49 x1372002_15.length co49, .int .i64 t1377, .slice Ao45 t1378.length co45, .string t1381, .int .i64 t1365] (0, 0) _ rfl (pt0 BK1358) Tryz.underlying31 rfl (by kernel_rfl)) rfl ?_
      exact ⟨_, _, _, rf, rg (Kd.R_types HO1385.out BK1358.out (by decide)), rg (Kd.R_types HO_1372002.out BK1358.out (by decide)), rg (Kd.R_types HO1380.out BK1358.out (by decide)), bl⟩
     rw [if_neg c51] at H
     have c51b0 : (t1386.toList == a0.toList) = false := beq_eq_false_iff_ne.mpr c51
     have c51b1 : (t1386.toList != a0.toList) = true := bne_iff_ne.mpr c51
     (first | rw [c51b0] | (simp only [i64_w, i32_w]; rw [c51b0]) | skip)
     simp only [Option.some.injEq, Prod.mk.injEq] at H
     obtain ⟨rfl, rfl, rfl, rfl, rfl, rfl, rfl, rfl⟩ := H
     have hnb55 := NB1358_1371.out
     have hnc55 := NB1371_1358.out
     obtain ⟨z56_0, y56_0, z56_1, y56_1, z56_2, y56_2, z56_3, y56_3, z56_4, y56_4, z56_5, y56_5, z56_6, y56_6⟩ := cl7 BK1358
     go_wp2
     refine bodyPost_ret (results_ct rfl _ _ gb1358 31 #[.string (⟨#[]⟩ : ByteArray), .slice none 0 0, .slice none 0 0, .int .i64 0, .slice none 0 0, .string (⟨#[]⟩ : ByteArray), .int .i64 0] (0, 0) _ rfl (pt0 BK1358) Tryz.underlying31 rfl (by kernel_rfl)) rfl ?_
     exact ⟨_, _, _, rf, by first | exact Kd.R_nil _ _ _ _ _ | exact Kd.N_nil _ _ _ _ _ | exact Kd.V_nil _ _ _ _ _ | exact Kd.Q_nil _ _ _ _ _ | exact Kd.S_nil _ _ _ _ _, by first | exact Kd.R_nil _ _ _ _ _ | exact Kd.N_nil _ _ _ _ _ | exact Kd.V_nil _ _ _ _ _ | exact Kd.Q_nil _ _ _ _ _ | exact Kd.S_nil _ _ _ _ _, by first | exact Kd.R_nil _ _ _ _ _ | exact Kd.N_nil _ _ _ _ _ | exact Kd.V_nil _ _ _ _ _ | exact Kd.Q_nil _ _ _ _ _ | exact Kd.S_nil _ _ _ _ _, bl⟩

/-! ### impl_ObjText: function 55 -/
theorem u55HB {p : Prop} (h : p := by repeat (first | (with_reducible first | exact HB.out | apply below_alloc | apply pw_below_drewN | apply below_drew1 | refine below_set ?_ GE1387.out) | exact HB.out)) : p := h
def impl_ObjText.l0 : Nat → ByteArray → List ByteArray → Int → Int → ByteArray → List ByteArray → List ByteArray → Int → List (S116) → ByteArray → Int → Option (ByteArray)
 | 0, _, _, _, _, _, _, _, _, _, _, _ => none
 | k + 1, x3, x25, x26, x27, x1388000, x1388001, x1388002, x1388003, x1388004, x1388005, x1388006 => if x27 < x26 then (if 0 ≤ x27 then (if x27 < (x25.length : Int) then (if (rdOf ByteArray.empty x25 x27).size + 1 ≤ 9223372036854775807 then (if x3.size + ((rdOf ByteArray.empty x25 x27) ++ (⟨#[10]⟩ : ByteArray)).size ≤ 9223372036854775807 then (impl_ObjText.l0 k (x3 ++ ((rdOf ByteArray.empty x25 x27) ++ (⟨#[10]⟩ : ByteArray))) x25 x26 (wrap64 (x27 + 1)) x1388000 x1388001 x1388002 x1388003 x1388004 x1388005 x1388006) else (none)) else (none)) else (none)) else (none)) else ((impl_RespText.f k x1388003 x1388004 x1388005).bind fun t1392 => (if x3.size + t1392.size ≤ 9223372036854775807 then (some (x3 ++ t1392)) else (none)))
def impl_ObjText.f (k : Nat) (a0_0 : ByteArray) (l0_1 : List ByteArray) (l0_2 : List ByteArray) (a0_3 : Int) (l0_4 : List (S116)) (a0_5 : ByteArray) (a0_6 : Int) : Option (ByteArray) := (impl_ObjOk.f k a0_0 l0_1 l0_2 a0_3 l0_4 a0_5 a0_6).bind fun t1388 => (if t1388 = true then (if 4 + a0_0.size ≤ 9223372036854775807 then (if ((⟨#[111, 98, 106, 32]⟩ : ByteArray) ++ a0_0).size + 1 ≤ 9223372036854775807 then ((impl_NumText.f a0_6).bind fun t1389 => (if (((⟨#[111, 98, 106, 32]⟩ : ByteArray) ++ a0_0) ++ (⟨#[32]⟩ : ByteArray)).size + t1389.size ≤ 9223372036854775807 then (if ((((⟨#[111, 98, 106, 32]⟩ : ByteArray) ++ a0_0) ++ (⟨#[32]⟩ : ByteArray)) ++ t1389).size + 1 ≤ 9223372036854775807 then ((strconv_Itoa.f (l0_2.length : Int)).bind fun t1390 => (if (((((⟨#[111, 98, 106, 32]⟩ : ByteArray) ++ a0_0) ++ (⟨#[32]⟩ : ByteArray)) ++ t1389) ++ (⟨#[32]⟩ : ByteArray)).size + t1390.size ≤ 9223372036854775807 then (if ((((((⟨#[111, 98, 106, 32]⟩ : ByteArray) ++ a0_0) ++ (⟨#[32]⟩ : ByteArray)) ++ t1389) ++ (⟨#[32]⟩ : ByteArray)) ++ t1390).size + 1 ≤ 9223372036854775807 then (impl_ObjText.l0 k (((((((⟨#[111, 98, 106, 32]⟩ : ByteArray) ++ a0_0) ++ (⟨#[32]⟩ : ByteArray)) ++ t1389) ++ (⟨#[32]⟩ : ByteArray)) ++ t1390) ++ (⟨#[10]⟩ : ByteArray)) l0_2 (l0_2.length : Int) 0 a0_0 l0_1 l0_2 a0_3 l0_4 a0_5 a0_6) else (none)) else (none))) else (none)) else (none))) else (none)) else (none)) else (some (⟨#[]⟩ : ByteArray)))
theorem impl_ObjText.mono_l : ∀ k, (∀ y0 y1 y2 y3 y4 y5 y6 y7 y8 y9 y10, LeO (impl_ObjText.l0 k y0 y1 y2 y3 y4 y5 y6 y7 y8 y9 y10) (impl_ObjText.l0 (k + 1) y0 y1 y2 y3 y4 y5 y6 y7 y8 y9 y10))
 | 0 => fun _ _ _ _ _ _ _ _ _ _ _ r h => by simp [impl_ObjText.l0] at h
 | k + 1 => by
  have ih0 := impl_ObjText.mono_l k
  ·intro y0 y1 y2 y3 y4 y5 y6 y7 y8 y9 y10
   unfold impl_ObjText.l0
   have m0 := @impl_ObjOk.mono
   have m1 := @impl_RespText.mono
   exact mo
theorem impl_ObjText.mono : ∀ a0 a1 a2 a3 a4 a5 a6 k, LeO (impl_ObjText.f k a0 a1 a2 a3 a4 a5 a6) (impl_ObjText.f (k + 1) a0 a1 a2 a3 a4 a5 a6) := by
 intro a0 a1 a2 a3 a4 a5 a6 k
 have ih0 := impl_ObjText.mono_l k
 unfold impl_ObjText.f
 have m0 := @impl_ObjOk.mono
 have m1 := @impl_RespText.mono
 exact mo
def impl_ObjText.T3 : Bool × List (List Nat × List Nat) := (true, [([], []), ([0], [0]), ([1], [1]), ([2], [2]), ([], []), ([4], [4]), ([5], [5]), ([3, 6], [3, 6]), ([7], [7]), ([], []), ([9], [9]), ([10], [10]), ([11, 6], [11]), ([8, 12], [8, 12]), ([13], [13]), ([14, 12, 0, 1, 2, 3, 4, 5, 6, 7, 8, 9, 10, 11, 12, 13, 14], [14])])
def impl_ObjText.B3 : List Nat := [0, 1, 3, 7, 0, 16, 48, 127, 255, 0, 512, 1536, 3696, 8191, 16383, 32767]
theorem impl_ObjText.tab3 : rtab .any (opsOf Tryz.f55 3) = impl_ObjText.T3 := by kernel_rfl
theorem impl_ObjText.bits3 : waitsOk impl_ObjText.T3.2 impl_ObjText.B3 = true := by kernel_rfl
set_option maxHeartbeats 8000000 in
set_option maxRecDepth 100000 in
theorem impl_ObjText.calls (k : Nat) (a0_0 : ByteArray) (A0_1 : Option Addr) (c0_1 : Nat) (l0_1 : List ByteArray) (A0_2 : Option Addr) (c0_2 : Nat) (l0_2 : List ByteArray) (a0_3 : Int) (A0_4 : Option Addr) (c0_4 : Nat) (l0_4 : List (S116)) (a0_5 : ByteArray) (a0_6 : Int) (r : ByteArray) (w : World) (hGM : GLOBM w) (hGT : GLOBT w) (hr0_1 : Kd.C Kd.string w A0_1 l0_1.length l0_1) (hc0_1 : l0_1.length ≤ c0_1) (hr0_2 : Kd.C Kd.string w A0_2 l0_2.length l0_2) (hc0_2 : l0_2.length ≤ c0_2) (hr0_4 : Kd.C k116 w A0_4 l0_4.length l0_4) (hc0_4 : l0_4.length ≤ c0_4) (h : impl_ObjText.f k a0_0 l0_1 l0_2 a0_3 l0_4 a0_5 a0_6 = some r) :
  Calls Tryz.prog 55 #[.agg #[.string a0_0, .slice A0_1 l0_1.length c0_1, .slice A0_2 l0_2.length c0_2, .int .i64 a0_3, .slice A0_4 l0_4.length c0_4, .string a0_5, .int .i64 a0_6]] w fun e w' => e = .returned (.string r) ∧ Below w.heap.size w w' := by
 have hu31 := Tryz.underlying31
 have hu29 := Tryz.underlying29
 have HR0_1 := am hr0_1
 have HC0_1 := am hc0_1
 clear hr0_1 hc0_1
 have HR0_2 := am hr0_2
 have HC0_2 := am hc0_2
 clear hr0_2 hc0_2
 have HR0_4 := am hr0_4
 have HC0_4 := am hc0_4
 clear hr0_4 hc0_4
 have HGM := am hGM
 clear hGM
 have HGT := am hGT
 clear hGT
 have HB := am (Below.refl w.heap.size w)
 unfold impl_ObjText.f at h
 have H := h
 clear h
 revert H
 refine ok1 fun t1388 A2 H => ?_
 have HH3 := am H
 clear H
 go_enter Tryz.func55, Tryz.ntmps55
 go_upto_if 8 with ((with_reducible refine gw ?_); first | (refine bx 1 #[.string a0_0, .slice A0_1 l0_1.length c0_1, .slice A0_2 l0_2.length c0_2, .int .i64 a0_3, .slice A0_4 l0_4.length c0_4, .string a0_5, .int .i64 a0_6] 31 ?_; intro gb1387 hg w4 hbox hb; have BK1387 := am (hbox); have GW1387 := am (sz hg : w.heap.size ≤ gb1387); have GE1387 := am (sz hg : w.heap.size ≤ gb1387); replace HB := am (below_step bl hb); clear hb hbox hg; obtain ⟨z5_0, y5_0, z5_1, y5_1, z5_2, y5_2, z5_3, y5_3, z5_4, y5_4, z5_5, y5_5, z5_6, y5_6⟩ := cl7 BK1387) | (refine gl 7 Tryz.func15 #[.agg #[.string a0_0, .slice A0_1 l0_1.length c0_1, .slice A0_2 l0_2.length c0_2, .int .i64 a0_3, .slice A0_4 l0_4.length c0_4, .string a0_5, .int .i64 a0_6]] ?_; (with_reducible refine (impl_ObjOk.calls k a0_0 _ _ l0_1 _ _ l0_2 a0_3 _ _ l0_4 a0_5 a0_6 t1388 _ ?side1 ?side2 ?side3 ?side4 ?side5 ?side6 ?side7 A2.out).mono ?_); (case side1 => exact GLOBM.below HGM.out bl); (case side2 => exact cb HR0_1); (case side3 => exact HC0_1.out); (case side4 => exact cb HR0_2); (case side5 => exact HC0_2.out); (case side6 => exact cb HR0_4); (case side7 => exact HC0_4.out); rintro e w6 ⟨rfl, hb⟩; refine ⟨_, rfl, ?_⟩; replace BK1387 := kb BK1387 hb; replace HB := am (below_step bl hb); clear hb))
 have H := HH3.out
 clear HH3
 by_cases c7 : t1388 = true
 rotate_left
 ·replace c7 := Bool.eq_false_iff.mpr c7
  subst c7
  rw [if_neg (show ¬ (false = true) by decide)] at H
  obtain rfl := Option.some.inj H
  go_wp2
  go_ret
  exact ⟨rf, bl⟩
 subst c7
 rw [if_pos rfl] at H
 revert H
 refine ifn fun c8 H => ?_
 have c8b0 := eq_true c8
 have c8b1 := decide_eq_true c8
 try have c8b2 := eq_false (Nat.not_lt.2 c8)
 revert H
 refine ifn fun c9 H => ?_
 have c9b0 := eq_true c9
 have c9b1 := decide_eq_true c9
 try have c9b2 := eq_false (Nat.not_lt.2 c9)
 have c9b3 : (9223372036854775807 < 4 + (a0_0).size + 1) = False := b3 c9
 revert H
 refine ok1 fun t1389 A10 H => ?_
 revert H
 refine ifn fun c11 H => ?_
 have c11b0 := eq_true c11
 have c11b1 := decide_eq_true c11
 try have c11b2 := eq_false (Nat.not_lt.2 c11)
 have c11b3 : (9223372036854775807 < 4 + (a0_0).size + 1 + (t1389).size) = False := b3 c11
 revert H
 refine ifn fun c12 H => ?_
 have c12b0 := eq_true c12
 have c12b1 := decide_eq_true c12
 try have c12b2 := eq_false (Nat.not_lt.2 c12)
 have c12b3 : (9223372036854775807 < 4 + (a0_0).size + 1 + (t1389).size + 1) = False := b3 c12
 revert H
 refine ok1 fun t1390 A13 H => ?_
 revert H
 refine ifn fun c14 H => ?_
 have c14b0 := eq_true c14
 have c14b1 := decide_eq_true c14
 try have c14b2 := eq_false (Nat.not_lt.2 c14)
 have c14b3 : (9223372036854775807 < 4 + (a0_0).size + 1 + (t1389).size + 1 + (t1390).size) = False := b3 c14
 revert H
 refine ifn fun c15 H => ?_
 have c15b0 := eq_true c15
 have c15b1 := decide_eq_true c15
 try have c15b2 := eq_false (Nat.not_lt.2 c15)
 have c15b3 : (9223372036854775807 < 4 + (a0_0).size + 1 + (t1389).size + 1 + (t1390).size + 1) = False := b3 c15
 have H' := am H
 clear H
 try go_wp2
 replace BK1387 := am (blk_drew BK1387.out)
 replace HB := am (below_drew1 HB.out)
 refine start_ (n := 16) (S := fun w' => w'.cell? ⟨gb1387, 0, none⟩ = some (.string a0_0) ∧ w'.cell? ⟨gb1387, 1, none⟩ = some (.slice A0_1 l0_1.length c0_1) ∧ w'.cell? ⟨gb1387, 2, none⟩ = some (.slice A0_2 l0_2.length c0_2) ∧ w'.cell? ⟨gb1387, 3, none⟩ = some (.int .i64 a0_3) ∧ w'.cell? ⟨gb1387, 4, none⟩ = some (.slice A0_4 l0_4.length c0_4) ∧ w'.cell? ⟨gb1387, 5, none⟩ = some (.string a0_5) ∧ w'.cell? ⟨gb1387, 6, none⟩ = some (.int .i64 a0_6)) (ds := []) ⟨br true [0, 16]⟩ (by kernel_rfl) rfl (by kernel_rfl) ⟨bc BK1387, bc BK1387, bc BK1387, bc BK1387, bc BK1387, bc BK1387, bc BK1387⟩ (fun hHeld => ?_); refine with_tabW impl_ObjText.tab3 impl_ObjText.bits3 (fun HT_ HW_ => ?_)
 generalize w6.drew = w16 at BK1387 HB hHeld ⊢
 refine pu 0 9 [1, 15] ?_
 refine pu 4 13 [1, 3, 1, 11] ?_
 refine pu 9 18 [1, 3, 1, 4, 1, 6] ?_
 refine tk 1 10 [2, 2, 1, 4, 1, 6] ?_
 refine pu 2 11 [3, 1, 1, 4, 1, 6] ?_
 refine pu 3 12 [5, 4, 1, 6] ?_
 refine tk 5 14 [6, 3, 1, 6] ?_
 refine tk 10 19 [6, 3, 2, 5] ?_
 refine pu 11 20 [6, 3, 3, 4] ?_
 refine og 6 15 [7, 2, 3, 4] Tryz.func77 #[.int .i64 a0_6] (fun K hK => ?_)
 with_reducible refine (impl_NumText.calls a0_6 t1389 _ ?side1 A10.out).mono ?_
 (case side1 => exact GLOBT.below HGT.out bl)
 rintro e w17 ⟨rfl, hb⟩
 refine ⟨_, rfl, ?_⟩
 replace BK1387 := kb BK1387 hb
 replace HB := am (below_step bl hb)
 clear hb
 refine hK.out _ _ ⟨bc BK1387, bc BK1387, bc BK1387, bc BK1387, bc BK1387, bc BK1387, bc BK1387⟩ (fun hHeld => ?_)
 clear hK K
 refine nm 15 ?_
 refine pu 7 16 [8, 1, 3, 4] ?_
 refine pu 8 17 [12, 4] ?_
 refine og 12 21 [13, 3] Tryz.func99 #[.int .i64 (l0_2.length : Int)] (fun K hK => ?_)
 with_reducible refine (strconv_Itoa.calls (l0_2.length : Int) t1390 _ ?side1 A13.out).mono ?_
 (case side1 => exact GLOBT.below HGT.out bl)
 rintro e w18 ⟨rfl, hb⟩
 refine ⟨_, rfl, ?_⟩
 replace BK1387 := kb BK1387 hb
 replace HB := am (below_step bl hb)
 clear hb
 refine hK.out _ _ ⟨bc BK1387, bc BK1387, bc BK1387, bc BK1387, bc BK1387, bc BK1387, bc BK1387⟩ (fun hHeld => ?_)
 clear hK K
 refine nm 21 ?_
 refine pu 13 22 [14, 2] ?_
 refine pu 14 23 [15, 1] ?_
 refine pu 15 3 [16] ?_
 refine done_ (done_of HT_.out (by kernel_rfl)) ?_
 obtain ⟨z19_0, y19_0, z19_1, y19_1, z19_2, y19_2, z19_3, y19_3, z19_4, y19_4, z19_5, y19_5, z19_6, y19_6⟩ := cl7 BK1387
 try go_wp2
 (try simp only [Act.put, List.setIfInBounds_toArray, List.set_cons_zero, List.set_cons_succ])
 go_loopg [3, 27] k (fun kq v3 v27 w' => ∃ (x3_1 : ByteArray) (x27_1 : Int), v3 = .string x3_1 ∧ v27 = .int .i64 x27_1 ∧ Aside0 (impl_ObjText.l0 kq x3_1 l0_2 (l0_2.length : Int) x27_1 a0_0 l0_1 l0_2 a0_3 l0_4 a0_5 a0_6 = some r) ∧ Aside0 (kq ≤ k) ∧ Aside0 (w'.heap[gb1387]? = some (.cells #[.string a0_0, (.slice A0_1 l0_1.length c0_1), (.slice A0_2 l0_2.length c0_2), .int .i64 a0_3, (.slice A0_4 l0_4.length c0_4), .string a0_5, .int .i64 a0_6] 31 (0, 0))) ∧ Aside0 (Below w.heap.size w w'))
 case atStart => exact ⟨(((((((⟨#[111, 98, 106, 32]⟩ : ByteArray) ++ a0_0) ++ (⟨#[32]⟩ : ByteArray)) ++ t1389) ++ (⟨#[32]⟩ : ByteArray)) ++ t1390) ++ (⟨#[10]⟩ : ByteArray)), (0), rs, rs, H', ⟨Nat.le_refl _⟩, ⟨by (with_reducible repeat (first | refine blk_drewN ?_ _ | refine blk_drew ?_ | refine blk_alloc ?_ _)); exact BK1387.out⟩, ⟨u55HB⟩⟩
 case round =>
  clear H'
  try clear c1
  try clear p2
  try clear c5
  try clear c7
  try clear c8
  try clear c8b0
  try clear c8b1
  try clear c8b2
  try clear c9
  try clear c9b0
  try clear c9b1
  try clear c9b2
  try clear c11
  try clear c11b0
  try clear c11b1
  try clear c11b2
  try clear c12
  try clear c12b0
  try clear c12b1
  try clear c12b2
  try clear c14
  try clear c14b0
  try clear c14b1
  try clear c14b2
  try clear c15
  try clear c15b0
  try clear c15b1
  try clear c15b2
  try clear z19_0
  try clear z19_1
  try clear z19_2
  try clear z19_3
  try clear z19_4
  try clear z19_5
  try clear z19_6
  try clear z5_0
  try clear z5_1
  try clear z5_2
  try clear z5_3
  try clear z5_4
  try clear z5_5
  try clear z5_6
  try clear y19_0
  try clear y19_1
  try clear y19_2
  try clear y19_3
  try clear y19_4
  try clear y19_5
  try clear y19_6
  try clear y5_0
  try clear y5_1
  try clear y5_2
  try clear y5_3
  try clear y5_4
  try clear y5_5
  try clear y5_6
  obtain ⟨x3_1, x27_1, rfl, rfl, HA, HK1, BK1387, HB⟩ := hrel
  cases gk with
  | zero => exact absurd HA.out (by simp [impl_ObjText.l0])
  | succ k1 =>
   have H := HA.out
   clear HA
   simp only [impl_ObjText.l0] at H
   by_cases c20 : x27_1 < (l0_2.length : Int)
   rotate_left
   ·rw [if_neg c20] at H
    have c20b0 := decide_eq_false c20
    clear c20
    (first | rw [c20b0] | (simp only [i64_w, i32_w]; rw [c20b0]) | skip)
    revert H
    refine ok1 fun t1392 A25 H => ?_
    revert H
    refine ifn fun c26 H => ?_
    have c26b0 := eq_true c26
    have c26b1 := decide_eq_true c26
    try have c26b2 := eq_false (Nat.not_lt.2 c26)
    obtain rfl := Option.some.inj H
    obtain ⟨z27_0, y27_0, z27_1, y27_1, z27_2, y27_2, z27_3, y27_3, z27_4, y27_4, z27_5, y27_5, z27_6, y27_6⟩ := cl7 BK1387
    go_wp2_with ((with_reducible refine gw ?_); first | (refine gl 39 Tryz.func35 #[.agg #[.int .i64 a0_3, .slice A0_4 l0_4.length c0_4, .string a0_5]] ?_; (with_reducible refine (impl_RespText.calls k1 a0_3 _ _ l0_4 a0_5 t1392 _ ?side1 ?side2 ?side3 A25.out).mono ?_); (case side1 => exact GLOBT.below HGT.out bl); (case side2 => exact cb HR0_4); (case side3 => exact HC0_4.out); rintro e w28 ⟨rfl, hb⟩; refine ⟨_, rfl, ?_⟩; replace BK1387 := kb BK1387 hb; replace HB := am (below_step bl hb); clear hb))
    go_ret
    exact ⟨rf, bl⟩
   rw [if_pos c20] at H
   have c20b0 := decide_eq_true c20
   clear c20
   (first | rw [c20b0] | (simp only [i64_w, i32_w]; rw [c20b0]) | skip)
   revert H
   refine ifn fun c21 H => ?_
   have c21b0 := decide_eq_true c21
   clear c21
   revert H
   refine ifn fun c22 H => ?_
   have c22b0 := decide_eq_true c22
   clear c22
   revert H
   refine ifn fun c23 H => ?_
   have c23b0 := eq_true c23
   have c23b1 := decide_eq_true c23
   try have c23b2 := eq_false (Nat.not_lt.2 c23)
   revert H
   refine ifn fun c24 H => ?_
   have c24b0 := eq_true c24
   have c24b1 := decide_eq_true c24
   try have c24b2 := eq_false (Nat.not_lt.2 c24)
   have c24b3 : (9223372036854775807 < (x3_1).size + ((rdOf ByteArray.empty l0_2 x27_1).size + 1)) = False := b3 c24
   have H' := am H
   clear H
   have p1391 : 0 ≤ (x27_1 : Int) := od
   have q1391 : x27_1 < (l0_2.length : Int) := od
   obtain ⟨ad1391, e1391, hx1391_0⟩ := Kd.at_string HR0_2.out x27_1 p1391 q1391
   cases e1391
   replace hx1391_0 := hcw hx1391_0
   replace p1391 := eq_true p1391
   replace q1391 := eq_true q1391
   go_wp2
   go_roundg k1
   case measure => have := HK1.out; omega
   case rel => exact ⟨(x3_1 ++ ((rdOf ByteArray.empty l0_2 x27_1) ++ (⟨#[10]⟩ : ByteArray))), (wrap64 (x27_1 + 1)), rs, rs, H', ⟨by have := HK1.out; omega⟩, ⟨by (with_reducible repeat (first | refine blk_drewN ?_ _ | refine blk_drew ?_ | refine blk_alloc ?_ _)); exact BK1387.out⟩, ⟨u55HB⟩⟩

/-! ### strings.Cut -/
def strings_Cut.f (a0 a1 : ByteArray) : Option (ByteArray × ByteArray × Bool) := if a0.size < 4294967281 then some (⟨(Lib.cut a0.data.toList a1.data.toList).1.toArray⟩, ⟨(Lib.cut a0.data.toList a1.data.toList).2.1.toArray⟩, (Lib.cut a0.data.toList a1.data.toList).2.2) else none
theorem strings_Cut.calls (a0 a1 : ByteArray) (r1 r2 : ByteArray) (r3 : Bool) (w : World) (hGM : GLOBM w) (h : strings_Cut.f a0 a1 = some (r1, r2, r3)) :
  Calls Tryz.prog 108 #[.string a0, .string a1] w fun e w' => e = .returned (.tuple #[.string r1, .string r2, .bool r3]) ∧ Below w.heap.size w w' := by
 unfold strings_Cut.f at h
 split at h
 case isFalse => cases h
 rename_i hl
 simp only [Option.some.injEq, Prod.mk.injEq] at h
 obtain ⟨rfl, rfl, rfl⟩ := h
 obtain ⟨m, hm⟩ := hGM
 refine (Tryz.strings_Cut a0 a1 m w hl hm).mono ?_
 rintro e w' ⟨rfl, n, rfl⟩
 exact ⟨rfl, pw_below_drewN (Below.refl _ _) n⟩

/-! ### impl_parts: function 158 -/
theorem u158HB {p : Prop} (h : p := by repeat (first | (with_reducible first | exact HB.out | apply below_alloc | apply pw_below_drewN | apply below_drew1) | exact HB.out)) : p := h
mutual
def impl_parts.j0 : Nat → ByteArray → List ByteArray → Bool → Option (ByteArray × (List (S116)) × ByteArray × Bool)
 | 0, _, _, _ => none
 | k + 1, x7, x9, x30 => if x30 = true then (some ((⟨#[]⟩ : ByteArray), ([] : List (S116)), (⟨#[]⟩ : ByteArray), false)) else (if 1 ≤ (x9.length : Int) then ((some (x9.drop 1 : List ByteArray)).bind fun y1399 => (impl_parts.l0 k x7 x9 ([] : List (S116)) y1399 (y1399.length : Int) 0)) else (none))
def impl_parts.l0 : Nat → ByteArray → List ByteArray → List (S116) → List ByteArray → Int → Int → Option (ByteArray × (List (S116)) × ByteArray × Bool)
 | 0, _, _, _, _, _, _ => none
 | k + 1, x7, x9, x10, x32, x33, x34 => if x34 < x33 then (if 0 ≤ x34 then (if x34 < (x32.length : Int) then ((strings_Cut.f (rdOf ByteArray.empty x32 x34) (⟨#[58, 32]⟩ : ByteArray)).bind fun bt1405 => (if bt1405.2.2 = true then (if x34 = (wrap64 ((x9.length : Int) - 2)) then (if bt1405.1.toList = ([99, 111, 110, 116, 101, 110, 116, 45, 108, 101, 110, 103, 116, 104] : List UInt8) then (if 0 < (x9.length : Int) then (some (rdOf ByteArray.empty x9 0, x10, x7, true)) else (none)) else (if x10.length < 4398046511104 then (impl_parts.l0 k x7 x9 (x10 ++ [(⟨bt1405.1, bt1405.2.1⟩ : S116)]) x32 x33 (wrap64 (x34 + 1))) else (none))) else (if x10.length < 4398046511104 then (impl_parts.l0 k x7 x9 (x10 ++ [(⟨bt1405.1, bt1405.2.1⟩ : S116)]) x32 x33 (wrap64 (x34 + 1))) else (none))) else (some ((⟨#[]⟩ : ByteArray), ([] : List (S116)), (⟨#[]⟩ : ByteArray), false)))) else (none)) else (none)) else (if 0 < (x9.length : Int) then (some (rdOf ByteArray.empty x9 0, x10, x7, true)) else (none))
end
def impl_parts.f (k : Nat) (a0 : ByteArray) : Option (ByteArray × (List (S116)) × ByteArray × Bool) := (strings_Cut.f a0 (⟨#[13, 10, 13, 10]⟩ : ByteArray)).bind fun bt1393 => ((strings_Split.f bt1393.1 (⟨#[13, 10]⟩ : ByteArray)).bind fun t1396 => (if bt1393.2.2 = true then (impl_parts.j0 k bt1393.2.1 t1396 (decide ((t1396.length : Int) > 10))) else (impl_parts.j0 k bt1393.2.1 t1396 true)))
theorem impl_parts.mono_l : ∀ k, (∀ y0 y1 y2, LeO (impl_parts.j0 k y0 y1 y2) (impl_parts.j0 (k + 1) y0 y1 y2)) ∧ (∀ y0 y1 y2 y3 y4 y5, LeO (impl_parts.l0 k y0 y1 y2 y3 y4 y5) (impl_parts.l0 (k + 1) y0 y1 y2 y3 y4 y5))
 | 0 => ⟨fun _ _ _ r h => by simp [impl_parts.j0] at h, fun _ _ _ _ _ _ r h => by simp [impl_parts.l0] at h⟩
 | k + 1 => by
  obtain ⟨ih0, ih1⟩ := impl_parts.mono_l k
  refine ⟨?_, ?_⟩
  ·intro y0 y1 y2
   unfold impl_parts.j0
   exact mo
  ·intro y0 y1 y2 y3 y4 y5
   unfold impl_parts.l0
   exact mo
theorem impl_parts.mono : ∀ a0 k, LeO (impl_parts.f k a0) (impl_parts.f (k + 1) a0) := by
 intro a0 k
 obtain ⟨ih0, ih1⟩ := impl_parts.mono_l k
 unfold impl_parts.f
 exact mo
set_option maxHeartbeats 8000000 in
set_option maxRecDepth 100000 in
theorem impl_parts.calls (k : Nat) (a0 : ByteArray) (r1 : ByteArray) (r2 : List (S116)) (r3 : ByteArray) (r4 : Bool) (w : World) (hGM : GLOBM w) (h : impl_parts.f k a0 = some (r1, r2, r3, r4)) :
  Calls Tryz.prog 158 #[.string a0] w fun e w' => ∃ v1_ : Value, e = .returned (.tuple #[.string r1, v1_, .string r3, .bool r4]) ∧ Kd.R k116 116 w' w.heap.size (fun _ => True) v1_ r2 ∧ Below w.heap.size w w' := by
 have hu116 := Tryz.underlying116
 have HGM := am hGM
 clear hGM
 have HB := am (Below.refl w.heap.size w)
 unfold impl_parts.f at h
 have H := h
 clear h
 revert H
 refine ok3 fun t1393 t1394 t1395 A2 H => ?_
 (try dsimp only at H)
 revert H
 refine ok1 fun t1396 A3 H => ?_
 have HC4 := am H
 clear H
 go_enter Tryz.func158, Tryz.ntmps158
 go_upto_region 3 with ((with_reducible refine gw ?_); first | (refine gl 18 Tryz.func108 #[.string a0, .string (⟨#[13, 10, 13, 10]⟩ : ByteArray)] ?_; (with_reducible refine (strings_Cut.calls a0 (⟨#[13, 10, 13, 10]⟩ : ByteArray) t1393 t1394 t1395 _ ?side1 A2.out).mono ?_); (case side1 => exact GLOBM.below HGM.out bl); rintro e w5 ⟨rfl, hb⟩; refine ⟨_, rfl, ?_⟩; replace HB := am (below_step bl hb); clear hb) | (refine gl 23 Tryz.func109 #[.string t1393, .string (⟨#[13, 10]⟩ : ByteArray)] ?_; (with_reducible refine (strings_Split.calls t1393 (⟨#[13, 10]⟩ : ByteArray) t1396 _ ?side1 A3.out).mono ?_); (case side1 => exact GLOBM.below HGM.out bl); rintro e w6 ⟨v1397, rfl, ho0, hb⟩; refine ⟨_, rfl, ?_⟩; have HO1398 := am (Kd.R_lower ho0 (below_size bl)); replace HB := am (below_step bl hb); clear hb ho0))
 (try simp only [Act.put, List.setIfInBounds_toArray, List.set_cons_zero, List.set_cons_succ])
 go_cut [30] (fun v30 wc => ∃ (kq : Nat) (x30_3 : Bool), v30 = .bool x30_3 ∧ Aside0 (impl_parts.j0 kq t1394 t1396 x30_3 = some (r1, r2, r3, r4)) ∧ Aside0 (kq ≤ k) ∧ Aside0 (Kd.R Kd.string 9 wc w.heap.size (fun _ => True) v1397 t1396) ∧ Aside0 (Below w.heap.size w wc))
 case first =>
  have H := HC4.out
  clear HC4
  by_cases c7 : t1395 = true
  rotate_left
  ·replace c7 := Bool.eq_false_iff.mpr c7
   subst c7
   rw [if_neg (show ¬ (false = true) by decide)] at H
   have H' := am H
   clear H
   go_wp2
   go_meet
   case rel => exact ⟨_, (true), rs, H', ⟨by first | omega | exact Nat.le_refl _⟩, ⟨by (with_reducible repeat (first | apply Kd.R_alloc | apply Kd.R_drewN | apply Kd.R_drew)); exact HO1398.out⟩, ⟨u158HB⟩⟩
  subst c7
  rw [if_pos rfl] at H
  have H' := am H
  clear H
  obtain ⟨Ao8, co8, eo8⟩ := Kd.R_slice HO1398.out
  subst eo8
  go_wp2
  go_meet
  case rel => exact ⟨_, (decide ((t1396.length : Int) > 10)), rs, H', ⟨by first | omega | exact Nat.le_refl _⟩, ⟨by (with_reducible repeat (first | apply Kd.R_alloc | apply Kd.R_drewN | apply Kd.R_drew)); exact HO1398.out⟩, ⟨u158HB⟩⟩
 case rest =>
  clear HC4
  try clear c1
  try clear p2
  try clear c7
  obtain ⟨kq, x30_3, rfl, HA, HJ3, HO_9, HB⟩ := hcut
  cases kq with
  | zero => exact absurd HA.out (by simp [impl_parts.j0])
  | succ kj3 =>
   have H := HA.out
   clear HA
   simp only [impl_parts.j0] at H
   by_cases c9 : x30_3 = true
   ·subst c9
    rw [if_pos rfl] at H
    simp only [Option.some.injEq, Prod.mk.injEq] at H
    obtain ⟨rfl, rfl, rfl, rfl⟩ := H
    go_wp2
    refine bodyPost_ret (results_list (rs := [.tmp 2, .tmp 3, .tmp 4, .tmp 5]) rfl (by simp) (.tmp (.tmp (.tmp (.tmp .nil))))) rfl ?_
    exact ⟨_, rf, by first | exact Kd.R_nil _ _ _ _ _ | exact Kd.N_nil _ _ _ _ _ | exact Kd.V_nil _ _ _ _ _ | exact Kd.Q_nil _ _ _ _ _ | exact Kd.S_nil _ _ _ _ _, bl⟩
   replace c9 := Bool.eq_false_iff.mpr c9
   subst c9
   rw [if_neg (show ¬ (false = true) by decide)] at H
   revert H
   refine ifn fun c10 H => ?_
   have c10b0 := eq_true c10
   have c10b1 := decide_eq_true c10
   clear c10
   obtain ⟨y1399, hy1399⟩ : ∃ y_ : List ByteArray, y_ = (t1396.drop 1) := ⟨_, rfl⟩
   replace H : (impl_parts.l0 kj3 t1394 t1396 ([] : List (S116)) y1399 (y1399.length : Int) 0) = some (r1, r2, r3, r4) := by first | (rw [hy1399]; with_reducible exact H) | (have H2_ := (Option.bind_some _ _).symm.trans H; rw [hy1399]; with_reducible exact H2_) | (have H2_ := (Option.bind_some _ _).symm.trans H; with_reducible exact H2_) | with_reducible exact H | (rw [hy1399]; exact H) | exact H
   have Ny1399 := am hy1399
   clear hy1399
   have H' := am H
   clear H
   obtain ⟨Ao12, co12, eo12⟩ := Kd.R_slice HO_9.out
   subst eo12
   have q11 : (1 : Int) ≤ ((t1396.length : Int) : Int) := od
   obtain ⟨i011, hi011, _, hsz11, _⟩ := info_parts info9
   have hroom11 : t1396.length ≤ co12 := (Kd.R_reads' HO_9.out).2.1
   have hC11 : Kd.C Kd.string _ Ao12 t1396.length t1396 := (Kd.R_reads' HO_9.out).2.2
   have hcut11 := cut_from (P := Tryz.prog) 26 9 .i64 Tryz.underlying26 hi011 1 hsz11 Ao12 t1396.length co12 1 (by omega) q11
   have hr11 := Kd.C_drop (m := (1 : Int).toNat) (c := co12) hC11 (by omega) hroom11
   obtain ⟨A11, hA11⟩ : ∃ A1, A1 = (if co12 = (1 : Int).toNat then Ao12 else (Ao12 : Option Addr).map (·.add ((1 : Int).toNat * 1))) := ⟨_, rfl⟩
   obtain ⟨c11, hc11⟩ : ∃ c1, c1 = co12 - (1 : Int).toNat := ⟨_, rfl⟩
   have hy11 : y1399.length = t1396.length - (1 : Int).toNat := (by rw [Ny1399.out, List.length_drop] <;> omega)
   rw [show (t1396).drop (1 : Int).toNat = y1399 from Ny1399.out.symm] at hr11
   replace hr11 : Kd.C Kd.string _ A11 y1399.length y1399 := (by rw [hA11]; exact hr11)
   rw [← hy11, ← hA11, ← hc11] at hcut11
   have HR1402 := am hr11
   have HC1402 := am (show y1399.length ≤ c11 from by rw [hy11, hc11]; exact Nat.sub_le_sub_right hroom11 _)
   clear hr11 hC11 hroom11 hi011 hsz11 hc11
   have KY11 := am hy11
   have KA11 := am hA11
   clear hy11 hA11
   have KL11 := am (show 1 ≤ t1396.length from by omega)
   replace q11 := eq_true q11
   go_wp2
   (try simp only [Act.put, List.setIfInBounds_toArray, List.set_cons_zero, List.set_cons_succ])
   go_loopg [10, 34] kj3 (fun kq v10 v34 w' => ∃ (x10_2 : List (S116)) (x34_2 : Int), v34 = .int .i64 x34_2 ∧ Aside0 (impl_parts.l0 kq t1394 t1396 x10_2 y1399 (y1399.length : Int) x34_2 = some (r1, r2, r3, r4)) ∧ Aside0 (kq ≤ kj3) ∧ Aside0 (Kd.R Kd.string 9 w' w.heap.size (fun _ => True) (.slice Ao12 t1396.length co12) t1396) ∧ Aside0 (Kd.R k116 116 w' w.heap.size (fun _ => True) v10 x10_2) ∧ Aside0 (Kd.C Kd.string w' A11 y1399.length y1399) ∧ Aside0 (Below w.heap.size w w'))
   case atStart => exact ⟨(([] : List (S116))), (0), rs, H', ⟨Nat.le_refl _⟩, ⟨by (with_reducible repeat (first | apply Kd.R_alloc | apply Kd.R_drewN | apply Kd.R_drew)); exact HO_9.out⟩, ⟨by first | exact Kd.R_nil _ _ _ _ _ | exact Kd.N_nil _ _ _ _ _ | exact Kd.V_nil _ _ _ _ _ | exact Kd.Q_nil _ _ _ _ _ | exact Kd.S_nil _ _ _ _ _⟩, ⟨by repeat (first | (with_reducible exact HR1402.out) | (with_reducible refine Kd.C_alloc ?_ _) | (with_reducible refine Kd.C_drewN ?_ _) | (with_reducible refine Kd.C_drew ?_) | exact HR1402.out)⟩, ⟨u158HB⟩⟩
   case round =>
    clear H'
    try clear c1
    try clear q1
    try clear p2
    try clear c7
    try clear c9
    try clear c10
    try clear c10b0
    try clear c10b1
    try clear c11
    try clear q11
    try clear p2
    try clear q11
    obtain ⟨x10_2, x34_2, rfl, HA, HK2, HO_9, HO_10, HR1402, HB⟩ := hrel
    cases gk with
    | zero => exact absurd HA.out (by simp [impl_parts.l0])
    | succ k2 =>
     have H := HA.out
     clear HA
     simp only [impl_parts.l0] at H
     by_cases c13 : x34_2 < (y1399.length : Int)
     rotate_left
     ·rw [if_neg c13] at H
      have c13b0 := decide_eq_false c13
      clear c13
      revert H
      refine ifn fun c27 H => ?_
      have c27b0 := decide_eq_true c27
      have c27b1 : decide (0 < t1396.length) = true := decide_eq_true (by omega)
      clear c27
      simp only [Option.some.injEq, Prod.mk.injEq] at H
      obtain ⟨rfl, rfl, rfl, rfl⟩ := H
      have p1403 : 0 ≤ (0 : Int) := (by omega)
      have q1403 : 0 < (t1396.length : Int) := od
      obtain ⟨ad1403, e1403, hx1403_0⟩ := Kd.at_string (Kd.R_reads' HO_9.out).2.2 0 p1403 q1403
      cases e1403
      have qi1403 : (0 < t1396.length) = True := eq_true (by omega)
      (try rw [show ((0 : Int)).toNat = 0 from rfl] at hx1403_0)
      (try rw [Addr.add_zero'] at hx1403_0)
      replace p1403 := eq_true p1403
      replace q1403 := eq_true q1403
      go_wp2
      refine bodyPost_ret (results_list (rs := [.tmp 2, .tmp 3, .tmp 4, .tmp 5]) rfl (by simp) (.tmp (.tmp (.tmp (.tmp .nil))))) rfl ?_
      exact ⟨_, rf, by (with_reducible repeat (first | apply Kd.R_alloc | apply Kd.R_drewN | apply Kd.R_drew)); exact HO_10.out, bl⟩
     rw [if_pos c13] at H
     have c13b0 := decide_eq_true c13
     clear c13
     revert H
     refine ifn fun c14 H => ?_
     have c14b0 := decide_eq_true c14
     clear c14
     revert H
     refine ifn fun c15 H => ?_
     have c15b0 := decide_eq_true c15
     clear c15
     revert H
     refine ok3 fun t1405 t1406 t1407 A16 H => ?_
     (try dsimp only at H)
     have HH17 := am H
     clear H
     have p1404 : 0 ≤ (x34_2 : Int) := od
     have q1404 : x34_2 < (y1399.length : Int) := od
     obtain ⟨ad1404, e1404, hx1404_0⟩ := Kd.at_string HR1402.out x34_2 p1404 q1404
     cases e1404
     replace p1404 := eq_true p1404
     replace q1404 := eq_true q1404
     go_upto_if 46 with ((with_reducible refine gw ?_); first | (refine gl 41 Tryz.func108 #[.string (rdOf ByteArray.empty y1399 x34_2), .string (⟨#[58, 32]⟩ : ByteArray)] ?_; (with_reducible refine (strings_Cut.calls (rdOf ByteArray.empty y1399 x34_2) (⟨#[58, 32]⟩ : ByteArray) t1405 t1406 t1407 _ ?side1 A16.out).mono ?_); (case side1 => exact GLOBM.below HGM.out bl); rintro e w18 ⟨rfl, hb⟩; refine ⟨_, rfl, ?_⟩; replace HO_9 := kr HO_9 hb; replace HO_10 := kr HO_10 hb; replace HR1402 := am (Kd.C_below (by repeat (first | (with_reducible exact HR1402.out) | (with_reducible refine Kd.C_alloc ?_ _) | (with_reducible refine Kd.C_drewN ?_ _) | (with_reducible refine Kd.C_drew ?_) | exact HR1402.out)) hb); replace HB := am (below_step bl hb); clear hb))
     have H := HH17.out
     clear HH17
     by_cases c19 : t1407 = true
     rotate_left
     ·replace c19 := Bool.eq_false_iff.mpr c19
      subst c19
      rw [if_neg (show ¬ (false = true) by decide)] at H
      simp only [Option.some.injEq, Prod.mk.injEq] at H
      obtain ⟨rfl, rfl, rfl, rfl⟩ := H
      go_wp2
      refine bodyPost_ret (results_list (rs := [.tmp 2, .tmp 3, .tmp 4, .tmp 5]) rfl (by simp) (.tmp (.tmp (.tmp (.tmp .nil))))) rfl ?_
      exact ⟨_, rf, by first | exact Kd.R_nil _ _ _ _ _ | exact Kd.N_nil _ _ _ _ _ | exact Kd.V_nil _ _ _ _ _ | exact Kd.Q_nil _ _ _ _ _ | exact Kd.S_nil _ _ _ _ _, bl⟩
     subst c19
     rw [if_pos rfl] at H
     by_cases c20 : x34_2 = (wrap64 ((t1396.length : Int) - 2))
     rotate_left
     ·rw [if_neg c20] at H
      have c20b0 : (x34_2 == (wrap64 ((t1396.length : Int) - 2))) = false := beq_eq_false_iff_ne.mpr c20
      have c20b1 : (x34_2 != (wrap64 ((t1396.length : Int) - 2))) = true := bne_iff_ne.mpr c20
      (first | rw [c20b0] | (simp only [i64_w, i32_w]; rw [c20b0]) | skip)
      revert H
      refine ifn fun c25 H => ?_
      have LMc25 := am c25
      clear c25
      obtain ⟨y1412, hy1412⟩ : ∃ y_ : List (S116), y_ = (x10_2 ++ [(⟨t1405, t1406⟩ : S116)]) := ⟨_, rfl⟩
      replace H : (impl_parts.l0 k2 t1394 t1396 y1412 y1399 (y1399.length : Int) (wrap64 (x34_2 + 1))) = some (r1, r2, r3, r4) := by first | (rw [hy1412]; with_reducible exact H) | (have H2_ := (Option.bind_some _ _).symm.trans H; rw [hy1412]; with_reducible exact H2_) | (have H2_ := (Option.bind_some _ _).symm.trans H; with_reducible exact H2_) | with_reducible exact H | (rw [hy1412]; exact H) | exact H
      have Ny1412 := am hy1412
      clear hy1412
      have H' := am H
      clear H
      go_wp2_with (first | ((with_reducible refine gate_builtin (b := .append) (xs := #[.tmp 56, .tmp 60]) rfl ?_); (try (refine gate_guard (by rfl) ?_; dsimp only)); at_builtin; refine Kd.R_append k116 (w0 := w) w.heap.size rfl (.tmp 56) (.tmp 60) 27 116 (.agg #[(.string ⟨#[]⟩), (.string ⟨#[]⟩)]) 32 rfl Tryz.underlying27 info116 rfl (by decide) (by omega) u10 x10_2 (⟨t1405, t1406⟩ : S116) [.string t1405, .string t1406] (fun _ => True) (fun _ => False) rfl rfl ?aP (fun _ hk => hk.elim) ?aF ?aO ?aB ?aS ?aL ?_; (case aP => exact k116_mkM _ _ _ (⟨t1405, t1406⟩ : S116)); (case aB => exact bl); (case aF => exact (fun _ _ => trivial)); (case aO => exact (ro HO_10)); (case aS => exact (below_size bl)); (case aL => have := LMc25.out; omega); intro v1413 w26 ho hb hg hat; rw [← Ny1412.out] at ho; have n0_ := am (Kd.R_over' (ro HO_9) (Kd.R_typed (ro HO_10)) (by decide) hg); have n1_ := am (hb); have n2_ := am ((show Kd.C Kd.string w26 (some ad1404) y1399.length y1399 from by rw [Ny1399.out, KA11.out]; exact Kd.C_drop (m := 1) (c := co12) ((Kd.R_reads' (Kd.R_over' (ro HO_9) (Kd.R_typed (ro HO_10)) (by decide) hg)).2.2) KL11.out ((Kd.R_reads' (Kd.R_over' (ro HO_9) (Kd.R_typed (ro HO_10)) (by decide) hg)).2.1))); have n3_ := am (ho); clear HO_9; clear HB; clear HR1402; clear HO_10; have HO_9 := n0_; have HB := n1_; have HR1402 := n2_; have HO1414 := n3_; clear n0_ n1_ n2_ n3_; clear ho hb hg hat))
      go_roundg k2
      case measure => have := HJ3.out; have := HK2.out; omega
      case rel => exact ⟨(y1412), (wrap64 (x34_2 + 1)), rs, H', ⟨by have := HJ3.out; have := HK2.out; omega⟩, ⟨by (with_reducible repeat (first | apply Kd.R_alloc | apply Kd.R_drewN | apply Kd.R_drew)); exact HO_9.out⟩, ⟨by (with_reducible repeat (first | apply Kd.R_alloc | apply Kd.R_drewN | apply Kd.R_drew)); exact HO1414.out⟩, ⟨by repeat (first | (with_reducible exact HR1402.out) | (with_reducible refine Kd.C_alloc ?_ _) | (with_reducible refine Kd.C_drewN ?_ _) | (with_reducible refine Kd.C_drew ?_) | exact HR1402.out)⟩, ⟨u158HB⟩⟩
     rw [if_pos c20] at H
     have c20b0 : (x34_2 == (wrap64 ((t1396.length : Int) - 2))) = true := beq_iff_eq.mpr c20
     have c20b1 : (x34_2 != (wrap64 ((t1396.length : Int) - 2))) = false := bne_eq_false_iff_eq.mpr c20
     clear c20
     (first | rw [c20b0] | (simp only [i64_w, i32_w]; rw [c20b0]) | skip)
     by_cases c21 : t1405.toList = ([99, 111, 110, 116, 101, 110, 116, 45, 108, 101, 110, 103, 116, 104] : List UInt8)
     ·rw [if_pos c21] at H
      have c21b0 : (t1405.toList == ([99, 111, 110, 116, 101, 110, 116, 45, 108, 101, 110, 103, 116, 104] : List UInt8)) = true := beq_iff_eq.mpr c21
      have c21b1 : (t1405.toList != ([99, 111, 110, 116, 101, 110, 116, 45, 108, 101, 110, 103, 116, 104] : List UInt8)) = false := bne_eq_false_iff_eq.mpr c21
      clear c21
      revert H
      refine ifn fun c22 H => ?_
      have c22b0 := decide_eq_true c22
      have c22b1 : decide (0 < t1396.length) = true := decide_eq_true (by omega)
      clear c22
      simp only [Option.some.injEq, Prod.mk.injEq] at H
      obtain ⟨rfl, rfl, rfl, rfl⟩ := H
      have p1408 : 0 ≤ (0 : Int) := (by omega)
      have q1408 : 0 < (t1396.length : Int) := od
      obtain ⟨ad1408, e1408, hx1408_0⟩ := Kd.at_string (Kd.R_reads' HO_9.out).2.2 0 p1408 q1408
      cases e1408
      have qi1408 : (0 < t1396.length) = True := eq_true (by omega)
      (try rw [show ((0 : Int)).toNat = 0 from rfl] at hx1408_0)
      (try rw [Addr.add_zero'] at hx1408_0)
      replace p1408 := eq_true p1408
      replace q1408 := eq_true q1408
      go_wp2
      refine bodyPost_ret (results_list (rs := [.tmp 2, .tmp 3, .tmp 4, .tmp 5]) rfl (by simp) (.tmp (.tmp (.tmp (.tmp .nil))))) rfl ?_
      exact ⟨_, rf, by (with_reducible repeat (first | apply Kd.R_alloc | apply Kd.R_drewN | apply Kd.R_drew)); exact HO_10.out, bl⟩
     rw [if_neg c21] at H
     have c21b0 : (t1405.toList == ([99, 111, 110, 116, 101, 110, 116, 45, 108, 101, 110, 103, 116, 104] : List UInt8)) = false := beq_eq_false_iff_ne.mpr c21
     have c21b1 : (t1405.toList != ([99, 111, 110, 116, 101, 110, 116, 45, 108, 101, 110, 103, 116, 104] : List UInt8)) = true := bne_iff_ne.mpr c21
     revert H
     refine ifn fun c23 H => ?_
     have LMc23 := am c23
     clear c23
     obtain ⟨y1409, hy1409⟩ : ∃ y_ : List (S116), y_ = (x10_2 ++ [(⟨t1405, t1406⟩ : S116)]) := ⟨_, rfl⟩
     replace H : (impl_parts.l0 k2 t1394 t1396 y1409 y1399 (y1399.length : Int) (wrap64 (x34_2 + 1))) = some (r1, r2, r3, r4) := by first | (rw [hy1409]; with_reducible exact H) | (have H2_ := (Option.bind_some _ _).symm.trans H; rw [hy1409]; with_reducible exact H2_) | (have H2_ := (Option.bind_some _ _).symm.trans H; with_reducible exact H2_) | with_reducible exact H | (rw [hy1409]; exact H) | exact H
     have Ny1409 := am hy1409
     clear hy1409
     have H' := am H
     clear H
     go_wp2_with (first | ((with_reducible refine gate_builtin (b := .append) (xs := #[.tmp 56, .tmp 60]) rfl ?_); (try (refine gate_guard (by rfl) ?_; dsimp only)); at_builtin; refine Kd.R_append k116 (w0 := w) w.heap.size rfl (.tmp 56) (.tmp 60) 27 116 (.agg #[(.string ⟨#[]⟩), (.string ⟨#[]⟩)]) 32 rfl Tryz.underlying27 info116 rfl (by decide) (by omega) u10 x10_2 (⟨t1405, t1406⟩ : S116) [.string t1405, .string t1406] (fun _ => True) (fun _ => False) rfl rfl ?aP (fun _ hk => hk.elim) ?aF ?aO ?aB ?aS ?aL ?_; (case aP => exact k116_mkM _ _ _ (⟨t1405, t1406⟩ : S116)); (case aB => exact bl); (case aF => exact (fun _ _ => trivial)); (case aO => exact (ro HO_10)); (case aS => exact (below_size bl)); (case aL => have := LMc23.out; omega); intro v1410 w24 ho hb hg hat; rw [← Ny1409.out] at ho; have n0_ := am (Kd.R_over' (ro HO_9) (Kd.R_typed (ro HO_10)) (by decide) hg); have n1_ := am (hb); have n2_ := am ((show Kd.C Kd.string w24 (some ad1404) y1399.length y1399 from by rw [Ny1399.out, KA11.out]; exact Kd.C_drop (m := 1) (c := co12) ((Kd.R_reads' (Kd.R_over' (ro HO_9) (Kd.R_typed (ro HO_10)) (by decide) hg)).2.2) KL11.out ((Kd.R_reads' (Kd.R_over' (ro HO_9) (Kd.R_typed (ro HO_10)) (by decide) hg)).2.1))); have n3_ := am (ho); clear HO_9; clear HB; clear HR1402; clear HO_10; have HO_9 := n0_; have HB := n1_; have HR1402 := n2_; have HO1411 := n3_; clear n0_ n1_ n2_ n3_; clear ho hb hg hat))
     go_roundg k2
     case measure => have := HJ3.out; have := HK2.out; omega
     case rel => exact ⟨(y1409), (wrap64 (x34_2 + 1)), rs, H', ⟨by have := HJ3.out; have := HK2.out; omega⟩, ⟨by (with_reducible repeat (first | apply Kd.R_alloc | apply Kd.R_drewN | apply Kd.R_drew)); exact HO_9.out⟩, ⟨by (with_reducible repeat (first | apply Kd.R_alloc | apply Kd.R_drewN | apply Kd.R_drew)); exact HO1411.out⟩, ⟨by repeat (first | (with_reducible exact HR1402.out) | (with_reducible refine Kd.C_alloc ?_ _) | (with_reducible refine Kd.C_drewN ?_ _) | (with_reducible refine Kd.C_drew ?_) | exact HR1402.out)⟩, ⟨u158HB⟩⟩

end Go.Proofs.YtjlpjbkpmmpojaaGreatDoor.All
