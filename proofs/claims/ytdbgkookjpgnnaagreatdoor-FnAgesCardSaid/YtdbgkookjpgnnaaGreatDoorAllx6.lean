-- Written by a program of this session (wip/tools/hprint.py) out of the translation. Lean checks it.
import Derived.Test.YtdbgkookjpgnnaaGreatDoorAllx0
import Derived.Test.YtdbgkookjpgnnaaGreatDoorAllx2
import Derived.Test.YtdbgkookjpgnnaaGreatDoorAllx3
import Derived.Test.YtdbgkookjpgnnaaGreatDoorAllx4
namespace Go.Proofs.YtdbgkookjpgnnaaGreatDoor.All
open Go.RowKit Go.Proofs.YtdbgkookjpgnnaaGreatDoorW.PrintWords Go.Proofs.YtdbgkookjpgnnaaGreatDoorW.PrintLast Go.Proofs.YtdbgkookjpgnnaaGreatDoorW.PrintMore
attribute [local go_sem] max2_int min2_int max_two min_two max_three min_three max_four min_four   -- for this text's walks alone
set_option linter.unusedVariables false
set_option linter.unusedSimpArgs false

/-! ### spec_l1DrawText: function 183 -/
theorem u183HK {p : Prop} (h : p := by repeat (first | (with_reducible first | exact HK.out | apply KeepBut.set_ | apply keep_drewN | apply keep_drew | apply keep_alloc) | exact HK.out)) : p := h
theorem u183HB {p : Prop} (h : p := by repeat (first | (with_reducible first | exact HB.out | apply below_alloc | apply pw_below_drewN | apply below_drew1 | refine below_set ?_ (IsS148.ge HI0.out)) | exact HB.out)) : p := h
theorem u183HI0 {p : Prop} (h : p := by repeat (first | (with_reducible first | exact HI0.out | apply IsS148.alloc | apply IsS148.drewN | apply IsS148.drew | apply IsS148.set_1 | apply IsS148.set_2) | exact HI0.out)) : p := h
def spec_l1DrawText.l0 : Nat → List Int → Int → List Int → Int → Int → Option (ByteArray × Int × Int)
 | 0, _, _, _, _, _ => none
 | k + 1, x3, x4, x1000, x1001, x1002 => (spec_l1Below.f x1000 x1001 x1002 14).bind fun bt339 => (if x4 < bt339.1 then ((spec_l1Pick.f x1000 bt339.2.1 bt339.2.2 (([(⟨#[32]⟩ : ByteArray), (⟨#[44]⟩ : ByteArray), (⟨#[97]⟩ : ByteArray), (⟨#[90]⟩ : ByteArray), (⟨#[55]⟩ : ByteArray), (⟨#[45]⟩ : ByteArray), (⟨#[61]⟩ : ByteArray), (⟨#[120]⟩ : ByteArray), (⟨#[58]⟩ : ByteArray), (⟨#[1]⟩ : ByteArray), (⟨#[64]⟩ : ByteArray), (⟨#[91]⟩ : ByteArray)] : List ByteArray))).bind fun bt345 => (if 0 < (bt345.1.size : Int) then (if x3.length < 140737488355328 then (spec_l1DrawText.l0 k (x3 ++ [bt bt345.1 0]) (wrap64 (x4 + 1)) x1000 bt345.2.1 bt345.2.2) else (none)) else (none))) else (some (strOfNums x3, bt339.2.1, bt339.2.2)))
def spec_l1DrawText.f (k : Nat) (s0_0 : List Int) (s0_1 : Int) (s0_2 : Int) : Option (ByteArray × Int × Int) := spec_l1DrawText.l0 k (([] : List Int)) 0 s0_0 s0_1 s0_2
theorem spec_l1DrawText.mono_l : ∀ k, (∀ y0 y1 y2 y3 y4, LeO (spec_l1DrawText.l0 k y0 y1 y2 y3 y4) (spec_l1DrawText.l0 (k + 1) y0 y1 y2 y3 y4))
 | 0 => fun _ _ _ _ _ r h => by simp [spec_l1DrawText.l0] at h
 | k + 1 => by
  have ih0 := spec_l1DrawText.mono_l k
  ·intro y0 y1 y2 y3 y4
   unfold spec_l1DrawText.l0
   exact mo
theorem spec_l1DrawText.mono : ∀ a0 a1 a2 k, LeO (spec_l1DrawText.f k a0 a1 a2) (spec_l1DrawText.f (k + 1) a0 a1 a2) := by
 intro a0 a1 a2 k
 have ih0 := spec_l1DrawText.mono_l k
 unfold spec_l1DrawText.f
 exact mo
set_option maxHeartbeats 8000000 in
set_option maxRecDepth 100000 in
theorem spec_l1DrawText.calls (k : Nat) (g : Nat) (s0_0 : List Int) (s0_1 : Int) (s0_2 : Int) (r1 : ByteArray) (r2 : Int) (r3 : Int) (w0 w : World) (hI : IsS148 w0 w g s0_0 s0_1 s0_2) (hB : Below w0.heap.size w0 w) (h : spec_l1DrawText.f k s0_0 s0_1 s0_2 = some (r1, r2, r3)) :
  Calls Tryz.prog 183 #[.pointer (some ⟨g, 0, none⟩)] w fun e w' => e = .returned (.string r1) ∧ IsS148 w0 w' g s0_0 r2 r3 ∧ Below w0.heap.size w0 w' ∧ KeepBut w w' g none := by
 have HI0 := am hI
 have HK := am (KeepBut.refl w g none)
 have HL := am hB.size
 clear hI
 have HW0 := am hB.size
 have HB := am hB
 clear hB
 unfold spec_l1DrawText.f at h
 have H := h
 clear h
 obtain ⟨y336, hy336⟩ : ∃ y_ : List Int, y_ = (([] : List Int)) := ⟨_, rfl⟩
 replace H : (spec_l1DrawText.l0 k y336 0 s0_0 s0_1 s0_2) = some (r1, r2, r3) := by first | (rw [hy336]; with_reducible exact H) | (have H2_ := (Option.bind_some _ _).symm.trans H; rw [hy336]; with_reducible exact H2_) | (have H2_ := (Option.bind_some _ _).symm.trans H; with_reducible exact H2_) | with_reducible exact H | (rw [hy336]; exact H) | exact H
 have Ny336 := am hy336
 clear hy336
 have H' := am H
 clear H
 go_enter Tryz.func183, Tryz.ntmps183
 go_wp2_with (first | ((with_reducible refine gate_dst (N := 5) rfl ?_); refine Kd.R_lit (Kd.int .u8) _ 5 ?hg (N := 5) ?hd (xs := ([] : List Int)) (inner := []) (ok := fun _ => True) (okp := fun _ => True) ?hr ?hp (fun _ hk => hk) trivial (Below.refl _ _) (Nat.le_refl _) (by simp) ?_; (case hd => rfl); (case hg => rfl); (case hr => first | (go_simp; done) | (go_simp; rfl)); (case hp => exact (Reps.none _ _)); intro v337 w2 ho3 hb hg_ hnew_; clear hg_ hnew_; (first | rw [← Ny336.out] at ho3 | (simp only [Int.reduceToNat] at ho3; rw [← Ny336.out] at ho3)); have HO338 := am (Kd.R_lower ho3 (keep_size (w := w) (g := g) (row := none) u183HK)); replace HK := am (KeepBut.trans u183HK (KeepBut.of_below hb g none) (.inl rfl)); replace HB := am (below_step u183HB hb); replace HI0 := am (IsS148.below u183HI0 hb); clear hb ho3))
 (try simp only [Act.put, List.setIfInBounds_toArray, List.set_cons_zero, List.set_cons_succ])
 go_loopg [3, 4] k (fun kq v3 v4 w' => ∃ (x3_1 : List Int) (x4_1 : Int) (x1001_1 : Int) (x1002_1 : Int), v4 = .int .i64 x4_1 ∧ Aside0 (spec_l1DrawText.l0 kq x3_1 x4_1 s0_0 x1001_1 x1002_1 = some (r1, r2, r3)) ∧ Aside0 (kq ≤ k) ∧ Aside0 (Kd.R (Kd.int .u8) 5 w' w.heap.size (fun _ => True) v3 x3_1) ∧ Aside0 (IsS148 w0 w' g s0_0 x1001_1 x1002_1) ∧ Aside0 (KeepBut w w' g none) ∧ Aside0 (Below w0.heap.size w0 w'))
 case atStart => exact ⟨(y336), (0), (s0_1), (s0_2), rs, H', ⟨Nat.le_refl _⟩, ⟨by (with_reducible repeat (first | apply Kd.R_alloc | apply Kd.R_drewN | apply Kd.R_drew)); exact HO338.out⟩, ⟨u183HI0⟩, ⟨u183HK⟩, ⟨u183HB⟩⟩
 case round =>
  clear H'
  try clear c1
  try clear p2
  obtain ⟨x3_1, x4_1, x1001_1, x1002_1, rfl, HA, HK1, HO_3, HI0, HK, HB⟩ := hrel
  cases gk with
  | zero => exact absurd HA.out (by simp [spec_l1DrawText.l0])
  | succ k1 =>
   have H := HA.out
   clear HA
   simp only [spec_l1DrawText.l0] at H
   revert H
   refine ok3 fun t339 t340 t341 A4 H => ?_
   (try dsimp only at H)
   by_cases c5 : x4_1 < t339
   rotate_left
   ·rw [if_neg c5] at H
    have c5b0 := decide_eq_false c5
    clear c5
    simp only [Option.some.injEq, Prod.mk.injEq] at H
    obtain ⟨rfl, rfl, rfl⟩ := H
    go_wp2_with (first | (refine gl 8 Tryz.func86 #[.pointer (some ⟨g, 0, none⟩), .int .i64 14] ?_; (with_reducible refine (spec_l1Below.calls g s0_0 x1001_1 x1002_1 14 t339 t340 t341 w0 _ ?side1 ?side2 A4.out).mono ?_); (case side1 => exact u183HI0); (case side2 => exact u183HB); rintro e w16 ⟨rfl, hi, hb, hk⟩; refine ⟨_, rfl, ?_⟩; replace HO_3 := am (Kd.R_mono (Kd.R_keep (IsS148.apart (show IsS148 w0 _ g s0_0 x1001_1 x1002_1 from u183HI0) (ro HO_3) (by decide)) hk (fun _ h => h.2)) (fun _ h => h.1)); replace HK := am (KeepBut.trans u183HK hk (.inl rfl)); replace HB := am (hb); replace HI0 := am (hi); clear hb hk hi; have hcv17 := own_string (P := Tryz.prog) Tryz.underlying22 Tryz.underlying5 Tryz.underlying9 (Kd.own_of_R HO_3.out)))
    go_ret
    exact ⟨rf, u183HI0, u183HB, u183HK⟩
   rw [if_pos c5] at H
   have c5b0 := decide_eq_true c5
   clear c5
   obtain ⟨y342, hy342⟩ : ∃ y_ : List ByteArray, y_ = (([(⟨#[32]⟩ : ByteArray), (⟨#[44]⟩ : ByteArray), (⟨#[97]⟩ : ByteArray), (⟨#[90]⟩ : ByteArray), (⟨#[55]⟩ : ByteArray), (⟨#[45]⟩ : ByteArray), (⟨#[61]⟩ : ByteArray), (⟨#[120]⟩ : ByteArray), (⟨#[58]⟩ : ByteArray), (⟨#[1]⟩ : ByteArray), (⟨#[64]⟩ : ByteArray), (⟨#[91]⟩ : ByteArray)] : List ByteArray)) := ⟨_, rfl⟩
   replace H : ((spec_l1Pick.f s0_0 t340 t341 y342).bind fun bt345 => (if 0 < (bt345.1.size : Int) then (if x3_1.length < 140737488355328 then (spec_l1DrawText.l0 k1 (x3_1 ++ [bt bt345.1 0]) (wrap64 (x4_1 + 1)) s0_0 bt345.2.1 bt345.2.2) else (none)) else (none))) = some (r1, r2, r3) := by first | (rw [hy342]; with_reducible exact H) | (have H2_ := (Option.bind_some _ _).symm.trans H; rw [hy342]; with_reducible exact H2_) | (have H2_ := (Option.bind_some _ _).symm.trans H; with_reducible exact H2_) | with_reducible exact H | (rw [hy342]; exact H) | exact H
   have Ny342 := am hy342
   clear hy342
   revert H
   refine ok3 fun t345 t346 t347 A6 H => ?_
   (try dsimp only at H)
   revert H
   refine ifn fun c7 H => ?_
   have c7b0 := decide_eq_true c7
   have c7b1 : decide (0 < t345.size) = true := decide_eq_true (by omega)
   clear c7
   revert H
   refine ifn fun c9 H => ?_
   have LMc9 := am c9
   clear c9
   obtain ⟨y348, hy348⟩ : ∃ y_ : List Int, y_ = (x3_1 ++ [bt t345 0]) := ⟨_, rfl⟩
   replace H : (spec_l1DrawText.l0 k1 y348 (wrap64 (x4_1 + 1)) s0_0 t346 t347) = some (r1, r2, r3) := by first | (rw [hy348]; with_reducible exact H) | (have H2_ := (Option.bind_some _ _).symm.trans H; rw [hy348]; with_reducible exact H2_) | (have H2_ := (Option.bind_some _ _).symm.trans H; with_reducible exact H2_) | with_reducible exact H | (rw [hy348]; exact H) | exact H
   have Ny348 := am hy348
   clear hy348
   have H' := am H
   clear H
   go_wp2_with (first | (refine gl 8 Tryz.func86 #[.pointer (some ⟨g, 0, none⟩), .int .i64 14] ?_; (with_reducible refine (spec_l1Below.calls g s0_0 x1001_1 x1002_1 14 t339 t340 t341 w0 _ ?side1 ?side2 A4.out).mono ?_); (case side1 => exact u183HI0); (case side2 => exact u183HB); rintro e w10 ⟨rfl, hi, hb, hk⟩; refine ⟨_, rfl, ?_⟩; replace HO_3 := am (Kd.R_mono (Kd.R_keep (IsS148.apart (show IsS148 w0 _ g s0_0 x1001_1 x1002_1 from u183HI0) (ro HO_3) (by decide)) hk (fun _ h => h.2)) (fun _ h => h.1)); replace HK := am (KeepBut.trans u183HK hk (.inl rfl)); replace HB := am (hb); replace HI0 := am (hi); clear hb hk hi) | ((with_reducible refine gate_dst (N := 14) rfl ?_); refine Kd.R_lit Kd.string _ 9 ?hg (N := 14) ?hd (xs := ([(⟨#[32]⟩ : ByteArray), (⟨#[44]⟩ : ByteArray), (⟨#[97]⟩ : ByteArray), (⟨#[90]⟩ : ByteArray), (⟨#[55]⟩ : ByteArray), (⟨#[45]⟩ : ByteArray), (⟨#[61]⟩ : ByteArray), (⟨#[120]⟩ : ByteArray), (⟨#[58]⟩ : ByteArray), (⟨#[1]⟩ : ByteArray), (⟨#[64]⟩ : ByteArray), (⟨#[91]⟩ : ByteArray)] : List ByteArray)) (inner := [.string (⟨#[32]⟩ : ByteArray), .string (⟨#[44]⟩ : ByteArray), .string (⟨#[97]⟩ : ByteArray), .string (⟨#[90]⟩ : ByteArray), .string (⟨#[55]⟩ : ByteArray), .string (⟨#[45]⟩ : ByteArray), .string (⟨#[61]⟩ : ByteArray), .string (⟨#[120]⟩ : ByteArray), .string (⟨#[58]⟩ : ByteArray), .string (⟨#[1]⟩ : ByteArray), .string (⟨#[64]⟩ : ByteArray), .string (⟨#[91]⟩ : ByteArray)]) (ok := fun _ => True) (okp := fun _ => True) ?hr ?hp (fun _ hk => hk) trivial (Below.refl _ _) (Nat.le_refl _) (by simp) ?_; (case hd => rfl); (case hg => rfl); (case hr => first | (go_simp; done) | (go_simp; rfl)); (case hp => exact rp); intro v343 w11 ho12 hb hg_ hnew_; clear hg_ hnew_; (first | rw [← Ny342.out] at ho12 | (simp only [Int.reduceToNat] at ho12; rw [← Ny342.out] at ho12)); replace HO_3 := kr HO_3 hb; have HO344 := am (Kd.R_lower ho12 (keep_size (w := w) (g := g) (row := none) u183HK)); replace HK := am (KeepBut.trans u183HK (KeepBut.of_below hb g none) (.inl rfl)); replace HB := am (below_step u183HB hb); replace HI0 := am (IsS148.below u183HI0 hb); clear hb ho12; obtain ⟨Ao13, co13, eo13⟩ := Kd.R_slice HO344.out; subst eo13) | (refine gl 15 Tryz.func108 #[.pointer (some ⟨g, 0, none⟩), .slice Ao13 y342.length co13] ?_; (with_reducible refine (spec_l1Pick.calls g s0_0 t340 t341 _ _ y342 t345 t346 t347 w0 _ ?side1 ?side2 ?side3 ?side4 ?side5 A6.out).mono ?_); (case side1 => exact u183HI0); (case side2 => exact u183HB); (case side3 => exact rc HO344); (case side4 => exact (Kd.R_reads' HO344.out).2.1); (case side5 => exact far_slice (IsS148.own_ne HI0.out HO344.out (by decide))); rintro e w14 ⟨rfl, hi, hb, hk⟩; refine ⟨_, rfl, ?_⟩; replace HO_3 := am (Kd.R_mono (Kd.R_keep (IsS148.apart (show IsS148 w0 _ g s0_0 t340 t341 from u183HI0) (ro HO_3) (by decide)) hk (fun _ h => h.2)) (fun _ h => h.1)); replace HO344 := am (Kd.R_mono (Kd.R_keep (IsS148.apart (show IsS148 w0 _ g s0_0 t340 t341 from u183HI0) (ro HO344) (by decide)) hk (fun _ h => h.2)) (fun _ h => h.1)); replace HK := am (KeepBut.trans u183HK hk (.inl rfl)); replace HB := am (hb); replace HI0 := am (hi); clear hb hk hi; have p8 : 0 ≤ (0 : Int) := (by omega); have q8 : 0 < t345.size := (by have : (0 : Int) < (t345.size : Int) := od; omega); have hx8 : ∀ h : 0 < t345.size, ((t345[0]'h).toNat : Int) = bt t345 0 := bt_at t345 0; clear p8; have qi8 : (0 < (t345.size : Int)) = True := eq_true (od); replace q8 := eq_true q8) | ((with_reducible refine gate_builtin (b := .append) (xs := #[.tmp 12, .tmp 17]) rfl ?_); at_builtin; refine Kd.R_append (Kd.int .u8) w.heap.size rfl (.tmp 12) (.tmp 17) 22 5 (.int .u8 0) 1 rfl Tryz.underlying22 info5 rfl (by decide) (by omega) u3 x3_1 (bt t345 0) [.int .u8 (bt t345 0)] (fun _ => True) (fun _ => False) rfl rfl ?aP (fun _ hk => hk.elim) ?aF ?aO (Below.refl _ _) ?aS ?aL ?_; (case aP => exact rfl); (case aF => exact (fun _ _ => trivial)); (case aO => exact (ro HO_3)); (case aS => exact (keep_size (w := w) (g := g) (row := none) u183HK)); (case aL => have := LMc9.out; omega); intro v349 w15 ho hb hg hat; rw [← Ny348.out] at ho; have n0_ := am (IsS148.grown u183HI0 hg (IsS148.own_ne HI0.out HO_3.out (by decide))); have n1_ := am (Kd.R_over' (ro HO344) (Kd.R_typed (ro HO_3)) (by decide) hg); have n2_ := am (below_weaken u183HB HL.out hb); have n3_ := am (KeepBut.trans u183HK (KeepBut.of_grown hg g) (Kd.R_base2 HO_3.out)); have n4_ := am (ho); clear HI0; clear HO344; clear HB; clear HK; clear HO_3; have HI0 := n0_; have HO344 := n1_; have HB := n2_; have HK := n3_; have HO350 := n4_; clear n0_ n1_ n2_ n3_ n4_; clear ho hb hg hat))
   go_roundg k1
   case measure => have := HK1.out; omega
   case rel => exact ⟨(y348), (wrap64 (x4_1 + 1)), (t346), (t347), rs, H', ⟨by have := HK1.out; omega⟩, ⟨by (with_reducible repeat (first | apply Kd.R_alloc | apply Kd.R_drewN | apply Kd.R_drew)); exact HO350.out⟩, ⟨u183HI0⟩, ⟨u183HK⟩, ⟨u183HB⟩⟩

/-! ### spec_l3DrawBody: function 171 -/
theorem u171HI0 {p : Prop} (h : p := by repeat (first | (with_reducible first | exact HI0.out | apply IsS148.alloc | apply IsS148.drewN | apply IsS148.drew | apply IsS148.set_1 | apply IsS148.set_2) | exact HI0.out)) : p := h
theorem u171HB {p : Prop} (h : p := by repeat (first | (with_reducible first | exact HB.out | apply below_alloc | apply pw_below_drewN | apply below_drew1 | refine below_set ?_ (IsS148.ge HI0.out)) | exact HB.out)) : p := h
theorem u171HK {p : Prop} (h : p := by repeat (first | (with_reducible first | exact HK.out | apply KeepBut.set_ | apply keep_drewN | apply keep_drew | apply keep_alloc) | exact HK.out)) : p := h
def spec_l3DrawBody.f (k : Nat) (s0_0 : List Int) (s0_1 : Int) (s0_2 : Int) : Option (ByteArray × Int × Int) := (spec_l1Once.f s0_0 s0_1 s0_2 2).bind fun bt351 => (if bt351.1 = true then ((spec_l1Pick.f s0_0 bt351.2.1 bt351.2.2 (([(⟨#[]⟩ : ByteArray), (⟨#[104, 101, 108, 108, 111]⟩ : ByteArray), (⟨#[13, 10, 13, 10]⟩ : ByteArray), (⟨#[97, 0, 98]⟩ : ByteArray), (⟨#[111, 110, 101, 32, 116, 119, 111]⟩ : ByteArray)] : List ByteArray))).bind fun bt357 => (some (bt357.1, bt357.2.1, bt357.2.2))) else ((spec_l1DrawText.f k s0_0 bt351.2.1 bt351.2.2).bind fun bt360 => (some (bt360.1, bt360.2.1, bt360.2.2))))
theorem spec_l3DrawBody.mono : ∀ a0 a1 a2 k, LeO (spec_l3DrawBody.f k a0 a1 a2) (spec_l3DrawBody.f (k + 1) a0 a1 a2) := by
 intro a0 a1 a2 k
 unfold spec_l3DrawBody.f
 have m0 := @spec_l1DrawText.mono
 exact mo
set_option maxHeartbeats 8000000 in
set_option maxRecDepth 100000 in
theorem spec_l3DrawBody.calls (k : Nat) (g : Nat) (s0_0 : List Int) (s0_1 : Int) (s0_2 : Int) (r1 : ByteArray) (r2 : Int) (r3 : Int) (w0 w : World) (hI : IsS148 w0 w g s0_0 s0_1 s0_2) (hB : Below w0.heap.size w0 w) (h : spec_l3DrawBody.f k s0_0 s0_1 s0_2 = some (r1, r2, r3)) :
  Calls Tryz.prog 171 #[.pointer (some ⟨g, 0, none⟩)] w fun e w' => e = .returned (.string r1) ∧ IsS148 w0 w' g s0_0 r2 r3 ∧ Below w0.heap.size w0 w' ∧ KeepBut w w' g none := by
 have HI0 := am hI
 have HK := am (KeepBut.refl w g none)
 have HL := am hB.size
 clear hI
 have HW0 := am hB.size
 have HB := am hB
 clear hB
 unfold spec_l3DrawBody.f at h
 have H := h
 clear h
 revert H
 refine ok3 fun t351 t352 t353 A2 H => ?_
 (try dsimp only at H)
 by_cases c3 : t351 = true
 rotate_left
 ·replace c3 := Bool.eq_false_iff.mpr c3
  subst c3
  rw [if_neg (show ¬ (false = true) by decide)] at H
  revert H
  refine ok3 fun t360 t361 t362 A10 H => ?_
  (try dsimp only at H)
  simp only [Option.some.injEq, Prod.mk.injEq] at H
  obtain ⟨rfl, rfl, rfl⟩ := H
  go_enter Tryz.func171, Tryz.ntmps171
  go_wp2_with (first | (refine gl 4 Tryz.func153 #[.pointer (some ⟨g, 0, none⟩), .int .i64 2] ?_; (with_reducible refine (spec_l1Once.calls g s0_0 s0_1 s0_2 2 false t352 t353 w0 _ ?side1 ?side2 A2.out).mono ?_); (case side1 => exact u171HI0); (case side2 => exact u171HB); rintro e w11 ⟨rfl, hi, hb, hk⟩; refine ⟨_, rfl, ?_⟩; replace HK := am (KeepBut.trans u171HK hk (.inl rfl)); replace HB := am (hb); replace HI0 := am (hi); clear hb hk hi) | (refine gl 9 Tryz.func183 #[.pointer (some ⟨g, 0, none⟩)] ?_; (with_reducible refine (spec_l1DrawText.calls k g s0_0 t352 t353 t360 t361 t362 w0 _ ?side1 ?side2 A10.out).mono ?_); (case side1 => exact u171HI0); (case side2 => exact u171HB); rintro e w12 ⟨rfl, hi, hb, hk⟩; refine ⟨_, rfl, ?_⟩; replace HK := am (KeepBut.trans u171HK hk (.inl rfl)); replace HB := am (hb); replace HI0 := am (hi); clear hb hk hi))
  go_ret
  exact ⟨rf, u171HI0, u171HB, u171HK⟩
 subst c3
 rw [if_pos rfl] at H
 obtain ⟨y354, hy354⟩ : ∃ y_ : List ByteArray, y_ = (([(⟨#[]⟩ : ByteArray), (⟨#[104, 101, 108, 108, 111]⟩ : ByteArray), (⟨#[13, 10, 13, 10]⟩ : ByteArray), (⟨#[97, 0, 98]⟩ : ByteArray), (⟨#[111, 110, 101, 32, 116, 119, 111]⟩ : ByteArray)] : List ByteArray)) := ⟨_, rfl⟩
 replace H : ((spec_l1Pick.f s0_0 t352 t353 y354).bind fun bt357 => (some (bt357.1, bt357.2.1, bt357.2.2))) = some (r1, r2, r3) := by first | (rw [hy354]; with_reducible exact H) | (have H2_ := (Option.bind_some _ _).symm.trans H; rw [hy354]; with_reducible exact H2_) | (have H2_ := (Option.bind_some _ _).symm.trans H; with_reducible exact H2_) | with_reducible exact H | (rw [hy354]; exact H) | exact H
 have Ny354 := am hy354
 clear hy354
 revert H
 refine ok3 fun t357 t358 t359 A4 H => ?_
 (try dsimp only at H)
 simp only [Option.some.injEq, Prod.mk.injEq] at H
 obtain ⟨rfl, rfl, rfl⟩ := H
 go_enter Tryz.func171, Tryz.ntmps171
 go_wp2_with (first | (refine gl 4 Tryz.func153 #[.pointer (some ⟨g, 0, none⟩), .int .i64 2] ?_; (with_reducible refine (spec_l1Once.calls g s0_0 s0_1 s0_2 2 true t352 t353 w0 _ ?side1 ?side2 A2.out).mono ?_); (case side1 => exact u171HI0); (case side2 => exact u171HB); rintro e w5 ⟨rfl, hi, hb, hk⟩; refine ⟨_, rfl, ?_⟩; replace HK := am (KeepBut.trans u171HK hk (.inl rfl)); replace HB := am (hb); replace HI0 := am (hi); clear hb hk hi) | ((with_reducible refine gate_dst (N := 6) rfl ?_); refine Kd.R_lit Kd.string _ 9 ?hg (N := 6) ?hd (xs := ([(⟨#[]⟩ : ByteArray), (⟨#[104, 101, 108, 108, 111]⟩ : ByteArray), (⟨#[13, 10, 13, 10]⟩ : ByteArray), (⟨#[97, 0, 98]⟩ : ByteArray), (⟨#[111, 110, 101, 32, 116, 119, 111]⟩ : ByteArray)] : List ByteArray)) (inner := [.string (⟨#[]⟩ : ByteArray), .string (⟨#[104, 101, 108, 108, 111]⟩ : ByteArray), .string (⟨#[13, 10, 13, 10]⟩ : ByteArray), .string (⟨#[97, 0, 98]⟩ : ByteArray), .string (⟨#[111, 110, 101, 32, 116, 119, 111]⟩ : ByteArray)]) (ok := fun _ => True) (okp := fun _ => True) ?hr ?hp (fun _ hk => hk) trivial (Below.refl _ _) (Nat.le_refl _) (by simp) ?_; (case hd => rfl); (case hg => rfl); (case hr => first | (go_simp; done) | (go_simp; rfl)); (case hp => exact rp); intro v355 w6 ho7 hb hg_ hnew_; clear hg_ hnew_; (first | rw [← Ny354.out] at ho7 | (simp only [Int.reduceToNat] at ho7; rw [← Ny354.out] at ho7)); have HO356 := am (Kd.R_lower ho7 (keep_size (w := w) (g := g) (row := none) u171HK)); replace HK := am (KeepBut.trans u171HK (KeepBut.of_below hb g none) (.inl rfl)); replace HB := am (below_step u171HB hb); replace HI0 := am (IsS148.below u171HI0 hb); clear hb ho7; obtain ⟨Ao8, co8, eo8⟩ := Kd.R_slice HO356.out; subst eo8) | (refine gl 7 Tryz.func108 #[.pointer (some ⟨g, 0, none⟩), .slice Ao8 y354.length co8] ?_; (with_reducible refine (spec_l1Pick.calls g s0_0 t352 t353 _ _ y354 t357 t358 t359 w0 _ ?side1 ?side2 ?side3 ?side4 ?side5 A4.out).mono ?_); (case side1 => exact u171HI0); (case side2 => exact u171HB); (case side3 => exact rc HO356); (case side4 => exact (Kd.R_reads' HO356.out).2.1); (case side5 => exact far_slice (IsS148.own_ne HI0.out HO356.out (by decide))); rintro e w9 ⟨rfl, hi, hb, hk⟩; refine ⟨_, rfl, ?_⟩; replace HO356 := am (Kd.R_mono (Kd.R_keep (IsS148.apart (show IsS148 w0 _ g s0_0 t352 t353 from u171HI0) (ro HO356) (by decide)) hk (fun _ h => h.2)) (fun _ h => h.1)); replace HK := am (KeepBut.trans u171HK hk (.inl rfl)); replace HB := am (hb); replace HI0 := am (hi); clear hb hk hi))
 go_ret
 exact ⟨rf, u171HI0, u171HB, u171HK⟩

/-! ### spec_l3DrawResp: function 139 -/
theorem u139HI0 {p : Prop} (h : p := by repeat (first | (with_reducible first | exact HI0.out | apply IsS148.alloc | apply IsS148.drewN | apply IsS148.drew | apply IsS148.set_1 | apply IsS148.set_2 | apply IsS148.far (p := ⟨gb363, _, none⟩) (hne := NB0_363.out) | apply IsS148.far (p := ⟨gb378, _, none⟩) (hne := NB0_378.out)) | exact HI0.out)) : p := h
theorem u139HK {p : Prop} (h : p := by repeat (first | (with_reducible first | exact HK.out | apply KeepBut.set_ | apply keep_drewN | apply keep_drew | apply keep_alloc | refine keep_far ?_ GW363.out _ | refine keep_far ?_ GW378.out _) | exact HK.out)) : p := h
theorem u139HB {p : Prop} (h : p := by repeat (first | (with_reducible first | exact HB.out | apply below_alloc | apply pw_below_drewN | apply below_drew1 | refine below_set ?_ (IsS148.ge HI0.out) | refine below_set ?_ GE363.out | refine below_set ?_ GE378.out) | exact HB.out)) : p := h
def spec_l3DrawResp.f (k : Nat) (s0_0 : List Int) (s0_1 : Int) (s0_2 : Int) : Option (Int × (List (S116)) × ByteArray × Int × Int) := (spec_l1PickInt.f s0_0 s0_1 s0_2 (([200, 200, 200, 200, 404, 500, 304] : List Int))).bind fun bt367 => ((spec_l2DrawRight.f k s0_0 bt367.2.1 bt367.2.2).bind fun bt370 => ((spec_l3DrawBody.f k s0_0 bt370.2.1 bt370.2.2).bind fun bt375 => ((spec_l1Once.f s0_0 bt375.2.1 bt375.2.2 2).bind fun bt379 => (if bt379.1 = true then ((spec_l1Pick.f s0_0 bt379.2.1 bt379.2.2 (([(⟨#[109, 97, 120, 45, 97, 103, 101, 61, 53]⟩ : ByteArray), (⟨#[109, 97, 120, 45, 97, 103, 101, 61, 50, 48]⟩ : ByteArray), (⟨#[109, 97, 120, 45, 97, 103, 101, 61, 57]⟩ : ByteArray)] : List ByteArray))).bind fun bt385 => ((spec_Put.f k bt370.1 (⟨#[99, 97, 99, 104, 101, 45, 99, 111, 110, 116, 114, 111, 108]⟩ : ByteArray) bt385.1).bind fun t388 => (some (bt367.1, t388, bt375.1, bt385.2.1, bt385.2.2)))) else (some (bt367.1, bt370.1, bt375.1, bt379.2.1, bt379.2.2))))))
theorem spec_l3DrawResp.mono : ∀ a0 a1 a2 k, LeO (spec_l3DrawResp.f k a0 a1 a2) (spec_l3DrawResp.f (k + 1) a0 a1 a2) := by
 intro a0 a1 a2 k
 unfold spec_l3DrawResp.f
 have m0 := @spec_Put.mono
 have m1 := @spec_l2DrawRight.mono
 have m2 := @spec_l3DrawBody.mono
 exact mo
def spec_l3DrawResp.T3 : Bool × List (List Nat × List Nat) := (true, [([], []), ([0], [0]), ([], []), ([], []), ([2, 3], [2, 3]), ([1, 4, 4], [1, 4]), ([0, 1, 2, 3, 4, 5], []), ([6, 5, 5, 0, 1, 2, 3, 4, 5], [5, 6])])
def spec_l3DrawResp.B3 : List Nat := [0, 1, 0, 0, 12, 31, 63, 127]
theorem spec_l3DrawResp.tab3 : rtab .any (opsOf Tryz.f139 3) = spec_l3DrawResp.T3 := by kernel_rfl
theorem spec_l3DrawResp.bits3 : waitsOk spec_l3DrawResp.T3.2 spec_l3DrawResp.B3 = true := by kernel_rfl
set_option maxHeartbeats 8000000 in
set_option maxRecDepth 100000 in
theorem spec_l3DrawResp.calls (k : Nat) (g : Nat) (s0_0 : List Int) (s0_1 : Int) (s0_2 : Int) (r1 : Int) (r2 : List (S116)) (r3 : ByteArray) (r4 : Int) (r5 : Int) (w0 w : World) (hI : IsS148 w0 w g s0_0 s0_1 s0_2) (hB : Below w0.heap.size w0 w) (h : spec_l3DrawResp.f k s0_0 s0_1 s0_2 = some (r1, r2, r3, r4, r5)) :
  Calls Tryz.prog 139 #[.pointer (some ⟨g, 0, none⟩)] w fun e w' => ∃ v1_ : Value, e = .returned (.agg #[.int .i64 r1, v1_, .string r3]) ∧ Kd.R k116 116 w' w.heap.size (fun _ => True) v1_ r2 ∧ IsS148 w0 w' g s0_0 r4 r5 ∧ Below w0.heap.size w0 w' ∧ KeepBut w w' g none := by
 have hu29 := Tryz.underlying29
 have HI0 := am hI
 have HK := am (KeepBut.refl w g none)
 have HL := am hB.size
 clear hI
 have HW0 := am hB.size
 have HB := am hB
 clear hB
 unfold spec_l3DrawResp.f at h
 have H := h
 clear h
 obtain ⟨y364, hy364⟩ : ∃ y_ : List Int, y_ = (([200, 200, 200, 200, 404, 500, 304] : List Int)) := ⟨_, rfl⟩
 replace H : ((spec_l1PickInt.f s0_0 s0_1 s0_2 y364).bind fun bt367 => ((spec_l2DrawRight.f k s0_0 bt367.2.1 bt367.2.2).bind fun bt370 => ((spec_l3DrawBody.f k s0_0 bt370.2.1 bt370.2.2).bind fun bt375 => ((spec_l1Once.f s0_0 bt375.2.1 bt375.2.2 2).bind fun bt379 => (if bt379.1 = true then ((spec_l1Pick.f s0_0 bt379.2.1 bt379.2.2 (([(⟨#[109, 97, 120, 45, 97, 103, 101, 61, 53]⟩ : ByteArray), (⟨#[109, 97, 120, 45, 97, 103, 101, 61, 50, 48]⟩ : ByteArray), (⟨#[109, 97, 120, 45, 97, 103, 101, 61, 57]⟩ : ByteArray)] : List ByteArray))).bind fun bt385 => ((spec_Put.f k bt370.1 (⟨#[99, 97, 99, 104, 101, 45, 99, 111, 110, 116, 114, 111, 108]⟩ : ByteArray) bt385.1).bind fun t388 => (some (bt367.1, t388, bt375.1, bt385.2.1, bt385.2.2)))) else (some (bt367.1, bt370.1, bt375.1, bt379.2.1, bt379.2.2))))))) = some (r1, r2, r3, r4, r5) := by first | (rw [hy364]; with_reducible exact H) | (have H2_ := (Option.bind_some _ _).symm.trans H; rw [hy364]; with_reducible exact H2_) | (have H2_ := (Option.bind_some _ _).symm.trans H; with_reducible exact H2_) | with_reducible exact H | (rw [hy364]; exact H) | exact H
 have Ny364 := am hy364
 clear hy364
 revert H
 refine ok3 fun t367 t368 t369 A2 H => ?_
 (try dsimp only at H)
 revert H
 refine ok3 fun t370 t373 t374 A3 H => ?_
 (try dsimp only at H)
 revert H
 refine ok3 fun t375 t376 t377 A4 H => ?_
 (try dsimp only at H)
 revert H
 refine ok3 fun t379 t380 t381 A5 H => ?_
 (try dsimp only at H)
 by_cases c6 : t379 = true
 rotate_left
 ·replace c6 := Bool.eq_false_iff.mpr c6
  subst c6
  rw [if_neg (show ¬ (false = true) by decide)] at H
  simp only [Option.some.injEq, Prod.mk.injEq] at H
  obtain ⟨rfl, rfl, rfl, rfl, rfl⟩ := H
  go_enter Tryz.func139, Tryz.ntmps139
  go_wp2_with (first | (refine bx 2 #[.int .i64 0, .slice none 0 0, .string (⟨#[]⟩ : ByteArray)] 29 ?_; intro gb363 hg w33 hbox hb; have n0_ := am (IsS148.below u139HI0 hb); have n1_ := am (KeepBut.trans u139HK (KeepBut.of_below hb g none) (.inl rfl)); have n2_ := am (below_step u139HB hb); have n3_ := am (hbox); have n4_ := am ((by rw [hg]; exact (keep_size (w := w) (g := g) (row := none) u139HK) : w.heap.size ≤ gb363)); have n5_ := am ((Nat.le_trans HW0.out (by rw [hg]; exact (keep_size (w := w) (g := g) (row := none) u139HK) : w.heap.size ≤ gb363) : w0.heap.size ≤ gb363)); have n6_ := am ((by rw [hg]; exact Nat.ne_of_lt (IsS148.lt (show IsS148 w0 _ g s0_0 s0_1 s0_2 from u139HI0)) : g ≠ gb363)); have n7_ := am ((by rw [hg]; exact Nat.ne_of_gt (IsS148.lt (show IsS148 w0 _ g s0_0 s0_1 s0_2 from u139HI0)) : gb363 ≠ g)); clear HI0; clear HK; clear HB; have HI0 := n0_; have HK := n1_; have HB := n2_; have BK363 := n3_; have GW363 := n4_; have GE363 := n5_; have NB0_363 := n6_; have NB363_0 := n7_; clear n0_ n1_ n2_ n3_ n4_ n5_ n6_ n7_; clear hb hbox hg) | ((with_reducible refine gate_dst (N := 5) rfl ?_); refine Kd.R_lit (Kd.int .i64) _ 3 ?hg (N := 5) ?hd (xs := ([200, 200, 200, 200, 404, 500, 304] : List Int)) (inner := [.int .i64 200, .int .i64 200, .int .i64 200, .int .i64 200, .int .i64 404, .int .i64 500, .int .i64 304]) (ok := fun _ => True) (okp := fun _ => True) ?hr ?hp (fun _ hk => hk) trivial (Below.refl _ _) (Nat.le_refl _) (by simp) ?_; (case hd => rfl); (case hg => rfl); (case hr => first | (go_simp; done) | (go_simp; rfl)); (case hp => exact rp); intro v365 w34 ho35 hb hg_ hnew_; clear hg_ hnew_; (first | rw [← Ny364.out] at ho35 | (simp only [Int.reduceToNat] at ho35; rw [← Ny364.out] at ho35)); have HO366 := am (Kd.R_lower ho35 (keep_size (w := w) (g := g) (row := none) u139HK)); replace BK363 := kb BK363 hb; replace HK := am (KeepBut.trans u139HK (KeepBut.of_below hb g none) (.inl rfl)); replace HB := am (below_step u139HB hb); replace HI0 := am (IsS148.below u139HI0 hb); clear hb ho35; obtain ⟨Ao36, co36, eo36⟩ := Kd.R_slice HO366.out; subst eo36) | (refine gl 6 Tryz.func99 #[.pointer (some ⟨g, 0, none⟩), .slice Ao36 y364.length co36] ?_; (with_reducible refine (spec_l1PickInt.calls g s0_0 s0_1 s0_2 _ _ y364 t367 t368 t369 w0 _ ?side1 ?side2 ?side3 ?side4 ?side5 A2.out).mono ?_); (case side1 => exact u139HI0); (case side2 => exact u139HB); (case side3 => exact rc HO366); (case side4 => exact (Kd.R_reads' HO366.out).2.1); (case side5 => exact far_slice (IsS148.own_ne HI0.out HO366.out (by decide))); rintro e w37 ⟨rfl, hi, hb, hk⟩; refine ⟨_, rfl, ?_⟩; replace BK363 := kp BK363 hk NB363_0; replace HO366 := am (Kd.R_mono (Kd.R_keep (IsS148.apart (show IsS148 w0 _ g s0_0 s0_1 s0_2 from u139HI0) (ro HO366) (by decide)) hk (fun _ h => h.2)) (fun _ h => h.1)); replace HK := am (KeepBut.trans u139HK hk (.inl rfl)); replace HB := am (hb); replace HI0 := am (hi); clear hb hk hi) | (refine gl 8 Tryz.func160 #[.pointer (some ⟨g, 0, none⟩)] ?_; (with_reducible refine (spec_l2DrawRight.calls k g s0_0 t368 t369 t370 t373 t374 w0 _ ?side1 ?side2 A3.out).mono ?_); (case side1 => exact u139HI0); (case side2 => exact u139HB); rintro e w38 ⟨v371, rfl, ho0, hi, hb, hk⟩; refine ⟨_, rfl, ?_⟩; replace BK363 := kp BK363 hk NB363_0; replace HO366 := am (Kd.R_mono (Kd.R_keep (IsS148.apart (show IsS148 w0 _ g s0_0 t368 t369 from u139HI0) (ro HO366) (by decide)) hk (fun _ h => h.2)) (fun _ h => h.1)); have HO372 := am (Kd.R_lower ho0 (keep_size (w := w) (g := g) (row := none) u139HK)); replace HK := am (KeepBut.trans u139HK hk (.inl rfl)); replace HB := am (hb); replace HI0 := am (hi); clear hb hk hi ho0) | (refine gl 10 Tryz.func171 #[.pointer (some ⟨g, 0, none⟩)] ?_; (with_reducible refine (spec_l3DrawBody.calls k g s0_0 t373 t374 t375 t376 t377 w0 _ ?side1 ?side2 A4.out).mono ?_); (case side1 => exact u139HI0); (case side2 => exact u139HB); rintro e w39 ⟨rfl, hi, hb, hk⟩; refine ⟨_, rfl, ?_⟩; replace BK363 := kp BK363 hk NB363_0; replace HO366 := am (Kd.R_mono (Kd.R_keep (IsS148.apart (show IsS148 w0 _ g s0_0 t373 t374 from u139HI0) (ro HO366) (by decide)) hk (fun _ h => h.2)) (fun _ h => h.1)); replace HO372 := am (Kd.R_mono (Kd.R_keep (IsS148.apart (show IsS148 w0 _ g s0_0 t373 t374 from u139HI0) (ro HO372) (by decide)) hk (fun _ h => h.2)) (fun _ h => h.1)); replace HK := am (KeepBut.trans u139HK hk (.inl rfl)); replace HB := am (hb); replace HI0 := am (hi); clear hb hk hi; obtain ⟨Ao40, co40, eo40⟩ := Kd.R_slice HO372.out; subst eo40) | (refine bx 3 #[.int .i64 0, .slice none 0 0, .string (⟨#[]⟩ : ByteArray)] 29 ?_; intro gb378 hg w41 hbox hb; have n0_ := am (Kd.R_below (ro HO366) hb); have n1_ := am (Kd.R_below (ro HO372) hb); have n2_ := am (IsS148.below u139HI0 hb); have n3_ := kb BK363 hb; have n4_ := am (KeepBut.trans u139HK (KeepBut.of_below hb g none) (.inl rfl)); have n5_ := am (below_step u139HB hb); have n6_ := am (hbox); have n7_ := am ((by rw [hg]; exact (keep_size (w := w) (g := g) (row := none) u139HK) : w.heap.size ≤ gb378)); have n8_ := am ((Nat.le_trans HW0.out (by rw [hg]; exact (keep_size (w := w) (g := g) (row := none) u139HK) : w.heap.size ≤ gb378) : w0.heap.size ≤ gb378)); have n9_ := am (nl hg BK363 : gb363 ≠ gb378); have n10_ := am (ng hg BK363 : gb378 ≠ gb363); have n11_ := am ((by rw [hg]; exact Nat.ne_of_lt (IsS148.lt (show IsS148 w0 _ g s0_0 t376 t377 from u139HI0)) : g ≠ gb378)); have n12_ := am ((by rw [hg]; exact Nat.ne_of_gt (IsS148.lt (show IsS148 w0 _ g s0_0 t376 t377 from u139HI0)) : gb378 ≠ g)); clear HO366; clear HO372; clear HI0; clear BK363; clear HK; clear HB; have HO366 := n0_; have HO372 := n1_; have HI0 := n2_; have BK363 := n3_; have HK := n4_; have HB := n5_; have BK378 := n6_; have GW378 := n7_; have GE378 := n8_; have NB363_378 := n9_; have NB378_363 := n10_; have NB0_378 := n11_; have NB378_0 := n12_; clear n0_ n1_ n2_ n3_ n4_ n5_ n6_ n7_ n8_ n9_ n10_ n11_ n12_; clear hb hbox hg; have hnb42 := NB378_363.out; have hnc42 := NB363_378.out; have hnb43 := NB378_0.out; have hnc43 := NB0_378.out; obtain ⟨z44_0, y44_0, z44_1, y44_1, z44_2, y44_2⟩ := cl3 BK378) | (refine gl 13 Tryz.func153 #[.pointer (some ⟨g, 0, none⟩), .int .i64 2] ?_; (with_reducible refine (spec_l1Once.calls g s0_0 t376 t377 2 false t380 t381 w0 _ ?side1 ?side2 A5.out).mono ?_); (case side1 => exact u139HI0); (case side2 => exact u139HB); rintro e w45 ⟨rfl, hi, hb, hk⟩; refine ⟨_, rfl, ?_⟩; have n0_ := am (KeepBut.blk hk (g' := gb363) (o := .cells #[.int .i64 0, .slice none 0 0, .string (⟨#[]⟩ : ByteArray)] 29 (0, 0)) (bg1 BK363 NB363_378) NB363_0.out (by simp)); have n1_ := am (Kd.R_mono (Kd.R_keep (IsS148.apart (show IsS148 w0 _ g s0_0 t376 t377 from u139HI0) (by (with_reducible repeat (first | apply Kd.R_alloc | apply Kd.R_drewN | apply Kd.R_drew)); exact (Kd.R_mono (Kd.R_far (p := ⟨gb378, 2, none⟩) (Kd.R_far (p := ⟨gb378, 1, none⟩) (Kd.R_far (p := ⟨gb378, 0, none⟩) (Kd.R_types HO366.out BK378.out (by decide)) (fun _ hk => hk.2) (.int .i64 t367)) (fun _ hk => hk.2) (.slice Ao40 t370.length co40)) (fun _ hk => hk.2) (.string t375)) (fun _ h_ => h_.1))) (by decide)) hk (fun _ h => h.2)) (fun _ h => h.1)); have n2_ := am (Kd.R_mono (Kd.R_keep (IsS148.apart (show IsS148 w0 _ g s0_0 t376 t377 from u139HI0) (by (with_reducible repeat (first | apply Kd.R_alloc | apply Kd.R_drewN | apply Kd.R_drew)); exact (Kd.R_mono (Kd.R_far (p := ⟨gb378, 2, none⟩) (Kd.R_far (p := ⟨gb378, 1, none⟩) (Kd.R_far (p := ⟨gb378, 0, none⟩) (Kd.R_types HO372.out BK378.out (by decide)) (fun _ hk => hk.2) (.int .i64 t367)) (fun _ hk => hk.2) (.slice Ao40 t370.length co40)) (fun _ hk => hk.2) (.string t375)) (fun _ h_ => h_.1))) (by decide)) hk (fun _ h => h.2)) (fun _ h => h.1)); have n3_ := am (KeepBut.blk hk (g' := gb378) (o := .cells #[.int .i64 t367, .slice Ao40 t370.length co40, .string t375] 29 (0, 0)) (pt0 BK378) NB378_0.out (by simp)); have n4_ := am (KeepBut.trans u139HK hk (.inl rfl)); have n5_ := am (hb); have n6_ := am (hi); clear BK363; clear HO366; clear HO372; clear BK378; clear HK; clear HB; clear HI0; have BK363 := n0_; have HO366 := n1_; have HO372 := n2_; have BK378 := n3_; have HK := n4_; have HB := n5_; have HI0 := n6_; clear n0_ n1_ n2_ n3_ n4_ n5_ n6_; clear hb hk hi; obtain ⟨z46_0, y46_0, z46_1, y46_1, z46_2, y46_2⟩ := cl3 BK378; have hnb47 := NB363_0.out; have hnc47 := NB0_363.out; obtain ⟨z48_0, y48_0, z48_1, y48_1, z48_2, y48_2⟩ := cl3 BK363))
  refine bodyPost_ret (results_cell_row rfl _ _ gb363 29 #[.int .i64 t367, .slice Ao40 t370.length co40, .string t375] (0, 0) _ rfl (pt0 BK363) Tryz.underlying29 rfl (by kernel_rfl)) rfl ?_
  exact ⟨_, rf, rg (Kd.R_types HO372.out BK363.out (by decide)), u139HI0, u139HB, u139HK⟩
 subst c6
 rw [if_pos rfl] at H
 obtain ⟨y382, hy382⟩ : ∃ y_ : List ByteArray, y_ = (([(⟨#[109, 97, 120, 45, 97, 103, 101, 61, 53]⟩ : ByteArray), (⟨#[109, 97, 120, 45, 97, 103, 101, 61, 50, 48]⟩ : ByteArray), (⟨#[109, 97, 120, 45, 97, 103, 101, 61, 57]⟩ : ByteArray)] : List ByteArray)) := ⟨_, rfl⟩
 replace H : ((spec_l1Pick.f s0_0 t380 t381 y382).bind fun bt385 => ((spec_Put.f k t370 (⟨#[99, 97, 99, 104, 101, 45, 99, 111, 110, 116, 114, 111, 108]⟩ : ByteArray) bt385.1).bind fun t388 => (some (t367, t388, t375, bt385.2.1, bt385.2.2)))) = some (r1, r2, r3, r4, r5) := by first | (rw [hy382]; with_reducible exact H) | (have H2_ := (Option.bind_some _ _).symm.trans H; rw [hy382]; with_reducible exact H2_) | (have H2_ := (Option.bind_some _ _).symm.trans H; with_reducible exact H2_) | with_reducible exact H | (rw [hy382]; exact H) | exact H
 have Ny382 := am hy382
 clear hy382
 revert H
 refine ok3 fun t385 t386 t387 A7 H => ?_
 (try dsimp only at H)
 revert H
 refine ok1 fun t388 A8 H => ?_
 simp only [Option.some.injEq, Prod.mk.injEq] at H
 obtain ⟨rfl, rfl, rfl, rfl, rfl⟩ := H
 go_enter Tryz.func139, Tryz.ntmps139
 try go_wp2_with (first | (refine bx 2 #[.int .i64 0, .slice none 0 0, .string (⟨#[]⟩ : ByteArray)] 29 ?_; intro gb363 hg w9 hbox hb; have n0_ := am (IsS148.below u139HI0 hb); have n1_ := am (KeepBut.trans u139HK (KeepBut.of_below hb g none) (.inl rfl)); have n2_ := am (below_step u139HB hb); have n3_ := am (hbox); have n4_ := am ((by rw [hg]; exact (keep_size (w := w) (g := g) (row := none) u139HK) : w.heap.size ≤ gb363)); have n5_ := am ((Nat.le_trans HW0.out (by rw [hg]; exact (keep_size (w := w) (g := g) (row := none) u139HK) : w.heap.size ≤ gb363) : w0.heap.size ≤ gb363)); have n6_ := am ((by rw [hg]; exact Nat.ne_of_lt (IsS148.lt (show IsS148 w0 _ g s0_0 s0_1 s0_2 from u139HI0)) : g ≠ gb363)); have n7_ := am ((by rw [hg]; exact Nat.ne_of_gt (IsS148.lt (show IsS148 w0 _ g s0_0 s0_1 s0_2 from u139HI0)) : gb363 ≠ g)); clear HI0; clear HK; clear HB; have HI0 := n0_; have HK := n1_; have HB := n2_; have BK363 := n3_; have GW363 := n4_; have GE363 := n5_; have NB0_363 := n6_; have NB363_0 := n7_; clear n0_ n1_ n2_ n3_ n4_ n5_ n6_ n7_; clear hb hbox hg) | ((with_reducible refine gate_dst (N := 5) rfl ?_); refine Kd.R_lit (Kd.int .i64) _ 3 ?hg (N := 5) ?hd (xs := ([200, 200, 200, 200, 404, 500, 304] : List Int)) (inner := [.int .i64 200, .int .i64 200, .int .i64 200, .int .i64 200, .int .i64 404, .int .i64 500, .int .i64 304]) (ok := fun _ => True) (okp := fun _ => True) ?hr ?hp (fun _ hk => hk) trivial (Below.refl _ _) (Nat.le_refl _) (by simp) ?_; (case hd => rfl); (case hg => rfl); (case hr => first | (go_simp; done) | (go_simp; rfl)); (case hp => exact rp); intro v365 w10 ho11 hb hg_ hnew_; clear hg_ hnew_; (first | rw [← Ny364.out] at ho11 | (simp only [Int.reduceToNat] at ho11; rw [← Ny364.out] at ho11)); have HO366 := am (Kd.R_lower ho11 (keep_size (w := w) (g := g) (row := none) u139HK)); replace BK363 := kb BK363 hb; replace HK := am (KeepBut.trans u139HK (KeepBut.of_below hb g none) (.inl rfl)); replace HB := am (below_step u139HB hb); replace HI0 := am (IsS148.below u139HI0 hb); clear hb ho11; obtain ⟨Ao12, co12, eo12⟩ := Kd.R_slice HO366.out; subst eo12) | (refine gl 6 Tryz.func99 #[.pointer (some ⟨g, 0, none⟩), .slice Ao12 y364.length co12] ?_; (with_reducible refine (spec_l1PickInt.calls g s0_0 s0_1 s0_2 _ _ y364 t367 t368 t369 w0 _ ?side1 ?side2 ?side3 ?side4 ?side5 A2.out).mono ?_); (case side1 => exact u139HI0); (case side2 => exact u139HB); (case side3 => exact rc HO366); (case side4 => exact (Kd.R_reads' HO366.out).2.1); (case side5 => exact far_slice (IsS148.own_ne HI0.out HO366.out (by decide))); rintro e w13 ⟨rfl, hi, hb, hk⟩; refine ⟨_, rfl, ?_⟩; replace BK363 := kp BK363 hk NB363_0; replace HO366 := am (Kd.R_mono (Kd.R_keep (IsS148.apart (show IsS148 w0 _ g s0_0 s0_1 s0_2 from u139HI0) (ro HO366) (by decide)) hk (fun _ h => h.2)) (fun _ h => h.1)); replace HK := am (KeepBut.trans u139HK hk (.inl rfl)); replace HB := am (hb); replace HI0 := am (hi); clear hb hk hi) | (refine gl 8 Tryz.func160 #[.pointer (some ⟨g, 0, none⟩)] ?_; (with_reducible refine (spec_l2DrawRight.calls k g s0_0 t368 t369 t370 t373 t374 w0 _ ?side1 ?side2 A3.out).mono ?_); (case side1 => exact u139HI0); (case side2 => exact u139HB); rintro e w14 ⟨v371, rfl, ho0, hi, hb, hk⟩; refine ⟨_, rfl, ?_⟩; replace BK363 := kp BK363 hk NB363_0; replace HO366 := am (Kd.R_mono (Kd.R_keep (IsS148.apart (show IsS148 w0 _ g s0_0 t368 t369 from u139HI0) (ro HO366) (by decide)) hk (fun _ h => h.2)) (fun _ h => h.1)); have HO372 := am (Kd.R_lower ho0 (keep_size (w := w) (g := g) (row := none) u139HK)); replace HK := am (KeepBut.trans u139HK hk (.inl rfl)); replace HB := am (hb); replace HI0 := am (hi); clear hb hk hi ho0) | (refine gl 10 Tryz.func171 #[.pointer (some ⟨g, 0, none⟩)] ?_; (with_reducible refine (spec_l3DrawBody.calls k g s0_0 t373 t374 t375 t376 t377 w0 _ ?side1 ?side2 A4.out).mono ?_); (case side1 => exact u139HI0); (case side2 => exact u139HB); rintro e w15 ⟨rfl, hi, hb, hk⟩; refine ⟨_, rfl, ?_⟩; replace BK363 := kp BK363 hk NB363_0; replace HO366 := am (Kd.R_mono (Kd.R_keep (IsS148.apart (show IsS148 w0 _ g s0_0 t373 t374 from u139HI0) (ro HO366) (by decide)) hk (fun _ h => h.2)) (fun _ h => h.1)); replace HO372 := am (Kd.R_mono (Kd.R_keep (IsS148.apart (show IsS148 w0 _ g s0_0 t373 t374 from u139HI0) (ro HO372) (by decide)) hk (fun _ h => h.2)) (fun _ h => h.1)); replace HK := am (KeepBut.trans u139HK hk (.inl rfl)); replace HB := am (hb); replace HI0 := am (hi); clear hb hk hi; obtain ⟨Ao16, co16, eo16⟩ := Kd.R_slice HO372.out; subst eo16) | (refine bx 3 #[.int .i64 0, .slice none 0 0, .string (⟨#[]⟩ : ByteArray)] 29 ?_; intro gb378 hg w17 hbox hb; have n0_ := am (Kd.R_below (ro HO366) hb); have n1_ := am (Kd.R_below (ro HO372) hb); have n2_ := am (IsS148.below u139HI0 hb); have n3_ := kb BK363 hb; have n4_ := am (KeepBut.trans u139HK (KeepBut.of_below hb g none) (.inl rfl)); have n5_ := am (below_step u139HB hb); have n6_ := am (hbox); have n7_ := am ((by rw [hg]; exact (keep_size (w := w) (g := g) (row := none) u139HK) : w.heap.size ≤ gb378)); have n8_ := am ((Nat.le_trans HW0.out (by rw [hg]; exact (keep_size (w := w) (g := g) (row := none) u139HK) : w.heap.size ≤ gb378) : w0.heap.size ≤ gb378)); have n9_ := am (nl hg BK363 : gb363 ≠ gb378); have n10_ := am (ng hg BK363 : gb378 ≠ gb363); have n11_ := am ((by rw [hg]; exact Nat.ne_of_lt (IsS148.lt (show IsS148 w0 _ g s0_0 t376 t377 from u139HI0)) : g ≠ gb378)); have n12_ := am ((by rw [hg]; exact Nat.ne_of_gt (IsS148.lt (show IsS148 w0 _ g s0_0 t376 t377 from u139HI0)) : gb378 ≠ g)); clear HO366; clear HO372; clear HI0; clear BK363; clear HK; clear HB; have HO366 := n0_; have HO372 := n1_; have HI0 := n2_; have BK363 := n3_; have HK := n4_; have HB := n5_; have BK378 := n6_; have GW378 := n7_; have GE378 := n8_; have NB363_378 := n9_; have NB378_363 := n10_; have NB0_378 := n11_; have NB378_0 := n12_; clear n0_ n1_ n2_ n3_ n4_ n5_ n6_ n7_ n8_ n9_ n10_ n11_ n12_; clear hb hbox hg; have hnb18 := NB378_363.out; have hnc18 := NB363_378.out; have hnb19 := NB378_0.out; have hnc19 := NB0_378.out; obtain ⟨z20_0, y20_0, z20_1, y20_1, z20_2, y20_2⟩ := cl3 BK378) | (refine gl 13 Tryz.func153 #[.pointer (some ⟨g, 0, none⟩), .int .i64 2] ?_; (with_reducible refine (spec_l1Once.calls g s0_0 t376 t377 2 true t380 t381 w0 _ ?side1 ?side2 A5.out).mono ?_); (case side1 => exact u139HI0); (case side2 => exact u139HB); rintro e w21 ⟨rfl, hi, hb, hk⟩; refine ⟨_, rfl, ?_⟩; have n0_ := am (KeepBut.blk hk (g' := gb363) (o := .cells #[.int .i64 0, .slice none 0 0, .string (⟨#[]⟩ : ByteArray)] 29 (0, 0)) (bg1 BK363 NB363_378) NB363_0.out (by simp)); have n1_ := am (Kd.R_mono (Kd.R_keep (IsS148.apart (show IsS148 w0 _ g s0_0 t376 t377 from u139HI0) (by (with_reducible repeat (first | apply Kd.R_alloc | apply Kd.R_drewN | apply Kd.R_drew)); exact (Kd.R_mono (Kd.R_far (p := ⟨gb378, 2, none⟩) (Kd.R_far (p := ⟨gb378, 1, none⟩) (Kd.R_far (p := ⟨gb378, 0, none⟩) (Kd.R_types HO366.out BK378.out (by decide)) (fun _ hk => hk.2) (.int .i64 t367)) (fun _ hk => hk.2) (.slice Ao16 t370.length co16)) (fun _ hk => hk.2) (.string t375)) (fun _ h_ => h_.1))) (by decide)) hk (fun _ h => h.2)) (fun _ h => h.1)); have n2_ := am (Kd.R_mono (Kd.R_keep (IsS148.apart (show IsS148 w0 _ g s0_0 t376 t377 from u139HI0) (by (with_reducible repeat (first | apply Kd.R_alloc | apply Kd.R_drewN | apply Kd.R_drew)); exact (Kd.R_mono (Kd.R_far (p := ⟨gb378, 2, none⟩) (Kd.R_far (p := ⟨gb378, 1, none⟩) (Kd.R_far (p := ⟨gb378, 0, none⟩) (Kd.R_types HO372.out BK378.out (by decide)) (fun _ hk => hk.2) (.int .i64 t367)) (fun _ hk => hk.2) (.slice Ao16 t370.length co16)) (fun _ hk => hk.2) (.string t375)) (fun _ h_ => h_.1))) (by decide)) hk (fun _ h => h.2)) (fun _ h => h.1)); have n3_ := am (KeepBut.blk hk (g' := gb378) (o := .cells #[.int .i64 t367, .slice Ao16 t370.length co16, .string t375] 29 (0, 0)) (pt0 BK378) NB378_0.out (by simp)); have n4_ := am (KeepBut.trans u139HK hk (.inl rfl)); have n5_ := am (hb); have n6_ := am (hi); clear BK363; clear HO366; clear HO372; clear BK378; clear HK; clear HB; clear HI0; have BK363 := n0_; have HO366 := n1_; have HO372 := n2_; have BK378 := n3_; have HK := n4_; have HB := n5_; have HI0 := n6_; clear n0_ n1_ n2_ n3_ n4_ n5_ n6_; clear hb hk hi))
 replace HO366 := am (Kd.R_drew HO366.out)
 replace HO372 := am (Kd.R_drew HO372.out)
 replace BK363 := am (blk_drew BK363.out)
 replace BK378 := am (blk_drew BK378.out)
 replace HI0 := am (IsS148.drew HI0.out)
 replace HK := am (keep_drew HK.out)
 replace HB := am (below_drew1 HB.out)
 refine start_ (n := 8) (S := fun w' => w'.cell? ⟨gb378, 0, none⟩ = some (.int .i64 t367) ∧ w'.cell? ⟨gb378, 1, none⟩ = some (.slice Ao16 t370.length co16) ∧ w'.cell? ⟨gb378, 2, none⟩ = some (.string t375)) (ds := [7]) ⟨br true [0, 8]⟩ (by kernel_rfl) rfl (by kernel_rfl) ⟨bc BK378, bc BK378, bc BK378⟩ (fun hHeld => ?_); refine with_tabW spec_l3DrawResp.tab3 spec_l3DrawResp.bits3 (fun HT_ HW_ => ?_)
 generalize w21.drew = w22 at HO366 HO372 BK363 BK378 HI0 HK HB hHeld ⊢
 refine pu 0 14 [1, 7] ?_
 refine pu 2 16 [1, 1, 1, 5] ?_
 refine tk 1 15 [3, 5] ?_
 refine one_ (i := 3) (N := some 17) #[true, true, true, true, false, false, false, false] rfl rfl (one_of HT_.out (by kernel_rfl)) (by decide) (fun K hK => ?_)
 refine Kd.R_lit_step Kd.string _ 9 ?hg (N := 17) ?hd (xs := ([(⟨#[109, 97, 120, 45, 97, 103, 101, 61, 53]⟩ : ByteArray), (⟨#[109, 97, 120, 45, 97, 103, 101, 61, 50, 48]⟩ : ByteArray), (⟨#[109, 97, 120, 45, 97, 103, 101, 61, 57]⟩ : ByteArray)] : List ByteArray)) (inner := [.string (⟨#[109, 97, 120, 45, 97, 103, 101, 61, 53]⟩ : ByteArray), .string (⟨#[109, 97, 120, 45, 97, 103, 101, 61, 50, 48]⟩ : ByteArray), .string (⟨#[109, 97, 120, 45, 97, 103, 101, 61, 57]⟩ : ByteArray)]) (ok := fun _ => True) (okp := fun _ => True) ?hr ?hp (fun _ hk => hk) trivial (Below.refl _ _) (Nat.le_refl _) (by simp) ?_; (case hd => rfl); (case hg => rfl); (case hr => first | (go_simp; done) | (go_simp; rfl)); (case hp => exact rp)
 intro v383 w23 ho24 hb hg_ hnew_
 clear hg_ hnew_
 (first | rw [← Ny382.out] at ho24 | (simp only [Int.reduceToNat] at ho24; rw [← Ny382.out] at ho24))
 replace HO366 := kr HO366 hb
 replace HO372 := kr HO372 hb
 have HO384 := am (Kd.R_lower ho24 (keep_size (w := w) (g := g) (row := none) u139HK))
 replace BK363 := kb BK363 hb
 replace BK378 := kb BK378 hb
 replace HK := am (KeepBut.trans u139HK (KeepBut.of_below hb g none) (.inl rfl))
 replace HB := am (below_step u139HB hb)
 replace HI0 := am (IsS148.below u139HI0 hb)
 clear hb ho24
 obtain ⟨Ao25, co25, eo25⟩ := Kd.R_slice HO384.out
 (first | subst eo25 | (injection eo25 with f1_ f2_ f3_; have f4_ := f1_.symm; have f5_ := f3_.symm; clear f1_ f2_ f3_; subst f4_; subst f5_))
 refine hK.out _ _ ⟨bc BK378, bc BK378, bc BK378⟩ (fun hHeld => ?_)
 clear hK K
 refine nm 17 ?_
 refine og 4 18 [5, 3] Tryz.func108 #[.pointer (some ⟨g, 0, none⟩), .slice Ao25 y382.length co25] (fun K hK => ?_)
 with_reducible refine (spec_l1Pick.calls g s0_0 t380 t381 _ _ y382 t385 t386 t387 w0 _ ?side1 ?side2 ?side3 ?side4 ?side5 A7.out).mono ?_
 (case side1 => exact u139HI0)
 (case side2 => exact u139HB)
 (case side3 => exact rc HO384)
 (case side4 => exact (Kd.R_reads' HO384.out).2.1)
 (case side5 => exact far_slice (IsS148.own_ne HI0.out HO384.out (by decide)))
 rintro e w26 ⟨rfl, hi, hb, hk⟩
 refine ⟨_, rfl, ?_⟩
 replace BK363 := kp BK363 hk NB363_0
 replace HO366 := am (Kd.R_mono (Kd.R_keep (IsS148.apart (show IsS148 w0 _ g s0_0 t380 t381 from u139HI0) (ro HO366) (by decide)) hk (fun _ h => h.2)) (fun _ h => h.1))
 replace HO372 := am (Kd.R_mono (Kd.R_keep (IsS148.apart (show IsS148 w0 _ g s0_0 t380 t381 from u139HI0) (ro HO372) (by decide)) hk (fun _ h => h.2)) (fun _ h => h.1))
 replace BK378 := kp BK378 hk NB378_0
 replace HO384 := am (Kd.R_mono (Kd.R_keep (IsS148.apart (show IsS148 w0 _ g s0_0 t380 t381 from u139HI0) (ro HO384) (by decide)) hk (fun _ h => h.2)) (fun _ h => h.1))
 replace HK := am (KeepBut.trans u139HK hk (.inl rfl))
 replace HB := am (hb)
 replace HI0 := am (hi)
 clear hb hk hi
 refine hK.out _ _ ⟨bc BK378, bc BK378, bc BK378⟩ (fun hHeld => ?_)
 clear hK K
 refine nm 18 ?_
 refine og 5 19 [6, 2] Tryz.func126 #[.slice Ao16 t370.length co16, .string (⟨#[99, 97, 99, 104, 101, 45, 99, 111, 110, 116, 114, 111, 108]⟩ : ByteArray), .string t385] (fun K hK => ?_)
 with_reducible refine (spec_Put.calls k _ _ t370 (⟨#[99, 97, 99, 104, 101, 45, 99, 111, 110, 116, 114, 111, 108]⟩ : ByteArray) t385 t388 _ ?side1 ?side2 A8.out).mono ?_
 (case side1 => exact rc HO372)
 (case side2 => exact (Kd.R_reads' HO372.out).2.1)
 rintro e w27 ⟨v389, rfl, ho0, hb⟩
 refine ⟨_, rfl, ?_⟩
 replace HO366 := kr HO366 hb
 replace HO384 := kr HO384 hb
 have HO390 := am (Kd.R_lower (Kd.R_new' ho0 (Kd.R_lt (ro HO372))) (keep_size (w := w) (g := g) (row := none) u139HK))
 replace HO372 := am (Kd.R_elder' (ro HO372) (Kd.R_base ho0) hb)
 replace BK363 := kb BK363 hb
 replace BK378 := kb BK378 hb
 replace HK := am (KeepBut.trans u139HK (KeepBut.of_below hb g none) (.inl rfl))
 replace HB := am (below_step u139HB hb)
 replace HI0 := am (IsS148.below u139HI0 hb)
 clear hb ho0
 obtain ⟨Ao28, co28, eo28⟩ := Kd.R_slice HO390.out
 (first | subst eo28 | (injection eo28 with f1_ f2_ f3_; have f4_ := f1_.symm; have f5_ := f3_.symm; clear f1_ f2_ f3_; subst f4_; subst f5_))
 refine hK.out _ _ ⟨bc BK378, bc BK378, bc BK378⟩ (fun hHeld => ?_)
 clear hK K
 refine nm 19 ?_
 refine pu 6 20 [7, 1] ?_
 refine last_ (i := 7) (N := none) #[true, true, true, true, true, true, true, true] rfl rfl (one_of HT_.out (by kernel_rfl)) (by decide) (fun K hK => ?_)
 have hs29 : w27.cell? ⟨gb378, 1, none⟩ = some (.slice Ao16 t370.length co16) := bc BK378
 have hfs29 := blk_frozen BK378.out 1
 have hns29_0 := NB363_378.out
 have hms29_0 := NB378_363.out
 refine skip_ (w1 := ?_) (by rfl) rfl ?_ ?_
 rotate_left
 ·go_simp
  rfl
 refine hK.out _ _ ?_
 clear hK K
 refine done_ (done_of HT_.out (by kernel_rfl)) ?_
 obtain ⟨z30_0, y30_0, z30_1, y30_1, z30_2, y30_2⟩ := cl3 BK378
 have hnb31 := NB363_0.out
 have hnc31 := NB0_363.out
 obtain ⟨z32_0, y32_0, z32_1, y32_1, z32_2, y32_2⟩ := cl3 BK363
 try go_wp2
 refine bodyPost_ret (results_cell_row rfl _ _ gb363 29 #[.int .i64 t367, .slice Ao28 t388.length co28, .string t375] (0, 0) _ rfl (pt1 BK363 NB363_378) Tryz.underlying29 rfl (by kernel_rfl)) rfl ?_
 exact ⟨_, rf, rg (Kd.R_types (Kd.R_types HO390.out BK378.out (by decide)) BK363.out (by decide)), u139HI0, u139HB, u139HK⟩

/-! ### spec_l3DrawBadResp: function 119 -/
theorem u119HI0 {p : Prop} (h : p := by repeat (first | (with_reducible first | exact HI0.out | apply IsS148.alloc | apply IsS148.drewN | apply IsS148.drew | apply IsS148.set_1 | apply IsS148.set_2 | apply IsS148.far (p := ⟨gb391, _, none⟩) (hne := NB0_391.out) | apply IsS148.far (p := ⟨gb399, _, none⟩) (hne := NB0_399.out)) | exact HI0.out)) : p := h
theorem u119HK {p : Prop} (h : p := by repeat (first | (with_reducible first | exact HK.out | apply KeepBut.set_ | apply keep_drewN | apply keep_drew | apply keep_alloc | refine keep_far ?_ GW391.out _ | refine keep_far ?_ GW399.out _) | exact HK.out)) : p := h
theorem u119HB {p : Prop} (h : p := by repeat (first | (with_reducible first | exact HB.out | apply below_alloc | apply pw_below_drewN | apply below_drew1 | refine below_set ?_ (IsS148.ge HI0.out) | refine below_set ?_ GE391.out | refine below_set ?_ GE399.out) | exact HB.out)) : p := h
def spec_l3DrawBadResp.l0 : Nat → List Int → Int → Int → Int → List (S116) → ByteArray → Option (Int × (List (S116)) × ByteArray × Int × Int)
 | 0, _, _, _, _, _, _ => none
 | k + 1, x1000, x1001, x1002, x400000, x400001, x400002 => (spec_l1Below.f x1000 x1001 x1002 2).bind fun bt414 => (if (x400002.size : Int) < (wrap64 (120 + bt414.1)) then (if x400002.size + 1 ≤ 9223372036854775807 then (spec_l3DrawBadResp.l0 k x1000 bt414.2.1 bt414.2.2 x400000 x400001 (x400002 ++ (⟨#[98]⟩ : ByteArray))) else (none)) else (some (x400000, x400001, x400002, bt414.2.1, bt414.2.2)))
def spec_l3DrawBadResp.f (k : Nat) (s0_0 : List Int) (s0_1 : Int) (s0_2 : Int) : Option (Int × (List (S116)) × ByteArray × Int × Int) := (spec_l3DrawResp.f k s0_0 s0_1 s0_2).bind fun bt392 => ((spec_l1Below.f s0_0 bt392.2.2.2.1 bt392.2.2.2.2 20).bind fun bt400 => (if bt400.1 = 0 then ((spec_l1PickInt.f s0_0 bt400.2.1 bt400.2.2 (([99, 100, 599, 600, (-1)] : List Int))).bind fun bt406 => (some (bt406.1, bt392.2.1, bt392.2.2.1, bt406.2.1, bt406.2.2))) else (if bt400.1 = 1 then ((spec_l2Draw.f k s0_0 bt400.2.1 bt400.2.2).bind fun bt409 => (some (bt392.1, bt409.1, bt392.2.2.1, bt409.2.1, bt409.2.2))) else (if bt400.1 = 2 then (spec_l3DrawBadResp.l0 k s0_0 bt400.2.1 bt400.2.2 bt392.1 bt392.2.1 bt392.2.2.1) else (some (bt392.1, bt392.2.1, bt392.2.2.1, bt400.2.1, bt400.2.2))))))
theorem spec_l3DrawBadResp.mono_l : ∀ k, (∀ y0 y1 y2 y3 y4 y5, LeO (spec_l3DrawBadResp.l0 k y0 y1 y2 y3 y4 y5) (spec_l3DrawBadResp.l0 (k + 1) y0 y1 y2 y3 y4 y5))
 | 0 => fun _ _ _ _ _ _ r h => by simp [spec_l3DrawBadResp.l0] at h
 | k + 1 => by
  have ih0 := spec_l3DrawBadResp.mono_l k
  ·intro y0 y1 y2 y3 y4 y5
   unfold spec_l3DrawBadResp.l0
   have m0 := @spec_l2Draw.mono
   have m1 := @spec_l3DrawResp.mono
   exact mo
theorem spec_l3DrawBadResp.mono : ∀ a0 a1 a2 k, LeO (spec_l3DrawBadResp.f k a0 a1 a2) (spec_l3DrawBadResp.f (k + 1) a0 a1 a2) := by
 intro a0 a1 a2 k
 have ih0 := spec_l3DrawBadResp.mono_l k
 unfold spec_l3DrawBadResp.f
 have m0 := @spec_l2Draw.mono
 have m1 := @spec_l3DrawResp.mono
 exact mo
set_option maxHeartbeats 8000000 in
set_option maxRecDepth 100000 in
theorem spec_l3DrawBadResp.calls (k : Nat) (g : Nat) (s0_0 : List Int) (s0_1 : Int) (s0_2 : Int) (r1 : Int) (r2 : List (S116)) (r3 : ByteArray) (r4 : Int) (r5 : Int) (w0 w : World) (hI : IsS148 w0 w g s0_0 s0_1 s0_2) (hB : Below w0.heap.size w0 w) (h : spec_l3DrawBadResp.f k s0_0 s0_1 s0_2 = some (r1, r2, r3, r4, r5)) :
  Calls Tryz.prog 119 #[.pointer (some ⟨g, 0, none⟩)] w fun e w' => ∃ v1_ : Value, e = .returned (.agg #[.int .i64 r1, v1_, .string r3]) ∧ Kd.R k116 116 w' w.heap.size (fun _ => True) v1_ r2 ∧ IsS148 w0 w' g s0_0 r4 r5 ∧ Below w0.heap.size w0 w' ∧ KeepBut w w' g none := by
 have hu29 := Tryz.underlying29
 have HI0 := am hI
 have HK := am (KeepBut.refl w g none)
 have HL := am hB.size
 clear hI
 have HW0 := am hB.size
 have HB := am hB
 clear hB
 unfold spec_l3DrawBadResp.f at h
 have H := h
 clear h
 revert H
 refine ok5 fun t392 t393 t396 t397 t398 A2 H => ?_
 (try dsimp only at H)
 revert H
 refine ok3 fun t400 t401 t402 A3 H => ?_
 (try dsimp only at H)
 by_cases c4 : t400 = 0
 ·rw [if_pos c4] at H
  have c4b0 : (t400 == 0) = true := beq_iff_eq.mpr c4
  have c4b1 : (t400 != 0) = false := bne_eq_false_iff_eq.mpr c4
  clear c4
  obtain ⟨y403, hy403⟩ : ∃ y_ : List Int, y_ = (([99, 100, 599, 600, (-1)] : List Int)) := ⟨_, rfl⟩
  replace H : ((spec_l1PickInt.f s0_0 t401 t402 y403).bind fun bt406 => (some (bt406.1, t393, t396, bt406.2.1, bt406.2.2))) = some (r1, r2, r3, r4, r5) := by first | (rw [hy403]; with_reducible exact H) | (have H2_ := (Option.bind_some _ _).symm.trans H; rw [hy403]; with_reducible exact H2_) | (have H2_ := (Option.bind_some _ _).symm.trans H; with_reducible exact H2_) | with_reducible exact H | (rw [hy403]; exact H) | exact H
  have Ny403 := am hy403
  clear hy403
  revert H
  refine ok3 fun t406 t407 t408 A5 H => ?_
  (try dsimp only at H)
  simp only [Option.some.injEq, Prod.mk.injEq] at H
  obtain ⟨rfl, rfl, rfl, rfl, rfl⟩ := H
  go_enter Tryz.func119, Tryz.ntmps119
  go_wp2_with (first | (refine bx 2 #[.int .i64 0, .slice none 0 0, .string (⟨#[]⟩ : ByteArray)] 29 ?_; intro gb391 hg w6 hbox hb; have n0_ := am (IsS148.below u119HI0 hb); have n1_ := am (KeepBut.trans u119HK (KeepBut.of_below hb g none) (.inl rfl)); have n2_ := am (below_step u119HB hb); have n3_ := am (hbox); have n4_ := am ((by rw [hg]; exact (keep_size (w := w) (g := g) (row := none) u119HK) : w.heap.size ≤ gb391)); have n5_ := am ((Nat.le_trans HW0.out (by rw [hg]; exact (keep_size (w := w) (g := g) (row := none) u119HK) : w.heap.size ≤ gb391) : w0.heap.size ≤ gb391)); have n6_ := am ((by rw [hg]; exact Nat.ne_of_lt (IsS148.lt (show IsS148 w0 _ g s0_0 s0_1 s0_2 from u119HI0)) : g ≠ gb391)); have n7_ := am ((by rw [hg]; exact Nat.ne_of_gt (IsS148.lt (show IsS148 w0 _ g s0_0 s0_1 s0_2 from u119HI0)) : gb391 ≠ g)); clear HI0; clear HK; clear HB; have HI0 := n0_; have HK := n1_; have HB := n2_; have BK391 := n3_; have GW391 := n4_; have GE391 := n5_; have NB0_391 := n6_; have NB391_0 := n7_; clear n0_ n1_ n2_ n3_ n4_ n5_ n6_ n7_; clear hb hbox hg) | (refine gl 5 Tryz.func139 #[.pointer (some ⟨g, 0, none⟩)] ?_; (with_reducible refine (spec_l3DrawResp.calls k g s0_0 s0_1 s0_2 t392 t393 t396 t397 t398 w0 _ ?side1 ?side2 A2.out).mono ?_); (case side1 => exact u119HI0); (case side2 => exact u119HB); rintro e w7 ⟨v394, rfl, ho0, hi, hb, hk⟩; refine ⟨_, rfl, ?_⟩; replace BK391 := kp BK391 hk NB391_0; have HO395 := am (Kd.R_lower ho0 (keep_size (w := w) (g := g) (row := none) u119HK)); replace HK := am (KeepBut.trans u119HK hk (.inl rfl)); replace HB := am (hb); replace HI0 := am (hi); clear hb hk hi ho0) | (refine bx 3 #[.int .i64 0, .slice none 0 0, .string (⟨#[]⟩ : ByteArray)] 29 ?_; intro gb399 hg w8 hbox hb; have n0_ := am (Kd.R_below (ro HO395) hb); have n1_ := am (IsS148.below u119HI0 hb); have n2_ := kb BK391 hb; have n3_ := am (KeepBut.trans u119HK (KeepBut.of_below hb g none) (.inl rfl)); have n4_ := am (below_step u119HB hb); have n5_ := am (hbox); have n6_ := am ((by rw [hg]; exact (keep_size (w := w) (g := g) (row := none) u119HK) : w.heap.size ≤ gb399)); have n7_ := am ((Nat.le_trans HW0.out (by rw [hg]; exact (keep_size (w := w) (g := g) (row := none) u119HK) : w.heap.size ≤ gb399) : w0.heap.size ≤ gb399)); have n8_ := am (nl hg BK391 : gb391 ≠ gb399); have n9_ := am (ng hg BK391 : gb399 ≠ gb391); have n10_ := am ((by rw [hg]; exact Nat.ne_of_lt (IsS148.lt (show IsS148 w0 _ g s0_0 t397 t398 from u119HI0)) : g ≠ gb399)); have n11_ := am ((by rw [hg]; exact Nat.ne_of_gt (IsS148.lt (show IsS148 w0 _ g s0_0 t397 t398 from u119HI0)) : gb399 ≠ g)); clear HO395; clear HI0; clear BK391; clear HK; clear HB; have HO395 := n0_; have HI0 := n1_; have BK391 := n2_; have HK := n3_; have HB := n4_; have BK399 := n5_; have GW399 := n6_; have GE399 := n7_; have NB391_399 := n8_; have NB399_391 := n9_; have NB0_399 := n10_; have NB399_0 := n11_; clear n0_ n1_ n2_ n3_ n4_ n5_ n6_ n7_ n8_ n9_ n10_ n11_; clear hb hbox hg; have hnb9 := NB399_391.out; have hnc9 := NB391_399.out; have hnb10 := NB399_0.out; have hnc10 := NB0_399.out; obtain ⟨z11_0, y11_0, z11_1, y11_1, z11_2, y11_2⟩ := cl3 BK399; obtain ⟨Ao12, co12, eo12⟩ := Kd.R_slice HO395.out; subst eo12) | (refine gl 7 Tryz.func86 #[.pointer (some ⟨g, 0, none⟩), .int .i64 20] ?_; (with_reducible refine (spec_l1Below.calls g s0_0 t397 t398 20 t400 t401 t402 w0 _ ?side1 ?side2 A3.out).mono ?_); (case side1 => exact u119HI0); (case side2 => exact u119HB); rintro e w13 ⟨rfl, hi, hb, hk⟩; refine ⟨_, rfl, ?_⟩; have n0_ := am (KeepBut.blk hk (g' := gb391) (o := .cells #[.int .i64 0, .slice none 0 0, .string (⟨#[]⟩ : ByteArray)] 29 (0, 0)) (bg1 BK391 NB391_399) NB391_0.out (by simp)); have n1_ := am (Kd.R_mono (Kd.R_keep (IsS148.apart (show IsS148 w0 _ g s0_0 t397 t398 from u119HI0) (by (with_reducible repeat (first | apply Kd.R_alloc | apply Kd.R_drewN | apply Kd.R_drew)); exact (Kd.R_mono (Kd.R_far (p := ⟨gb399, 2, none⟩) (Kd.R_far (p := ⟨gb399, 1, none⟩) (Kd.R_far (p := ⟨gb399, 0, none⟩) (Kd.R_types HO395.out BK399.out (by decide)) (fun _ hk => hk.2) (.int .i64 t392)) (fun _ hk => hk.2) (.slice Ao12 t393.length co12)) (fun _ hk => hk.2) (.string t396)) (fun _ h_ => h_.1))) (by decide)) hk (fun _ h => h.2)) (fun _ h => h.1)); have n2_ := am (KeepBut.blk hk (g' := gb399) (o := .cells #[.int .i64 t392, .slice Ao12 t393.length co12, .string t396] 29 (0, 0)) (pt0 BK399) NB399_0.out (by simp)); have n3_ := am (KeepBut.trans u119HK hk (.inl rfl)); have n4_ := am (hb); have n5_ := am (hi); clear BK391; clear HO395; clear BK399; clear HK; clear HB; clear HI0; have BK391 := n0_; have HO395 := n1_; have BK399 := n2_; have HK := n3_; have HB := n4_; have HI0 := n5_; clear n0_ n1_ n2_ n3_ n4_ n5_; clear hb hk hi) | ((with_reducible refine gate_dst (N := 11) rfl ?_); refine Kd.R_lit (Kd.int .i64) _ 3 ?hg (N := 11) ?hd (xs := ([99, 100, 599, 600, (-1)] : List Int)) (inner := [.int .i64 99, .int .i64 100, .int .i64 599, .int .i64 600, .int .i64 (-1)]) (ok := fun _ => True) (okp := fun _ => True) ?hr ?hp (fun _ hk => hk) trivial (Below.refl _ _) (Nat.le_refl _) (by simp) ?_; (case hd => rfl); (case hg => rfl); (case hr => first | (go_simp; done) | (go_simp; rfl)); (case hp => exact rp); intro v404 w14 ho15 hb hg_ hnew_; clear hg_ hnew_; (first | rw [← Ny403.out] at ho15 | (simp only [Int.reduceToNat] at ho15; rw [← Ny403.out] at ho15)); replace HO395 := kr HO395 hb; have HO405 := am (Kd.R_lower ho15 (keep_size (w := w) (g := g) (row := none) u119HK)); replace BK391 := kb BK391 hb; replace BK399 := kb BK399 hb; replace HK := am (KeepBut.trans u119HK (KeepBut.of_below hb g none) (.inl rfl)); replace HB := am (below_step u119HB hb); replace HI0 := am (IsS148.below u119HI0 hb); clear hb ho15; obtain ⟨Ao16, co16, eo16⟩ := Kd.R_slice HO405.out; subst eo16) | (refine gl 12 Tryz.func99 #[.pointer (some ⟨g, 0, none⟩), .slice Ao16 y403.length co16] ?_; (with_reducible refine (spec_l1PickInt.calls g s0_0 t401 t402 _ _ y403 t406 t407 t408 w0 _ ?side1 ?side2 ?side3 ?side4 ?side5 A5.out).mono ?_); (case side1 => exact u119HI0); (case side2 => exact u119HB); (case side3 => exact rc HO405); (case side4 => exact (Kd.R_reads' HO405.out).2.1); (case side5 => exact far_slice (IsS148.own_ne HI0.out HO405.out (by decide))); rintro e w17 ⟨rfl, hi, hb, hk⟩; refine ⟨_, rfl, ?_⟩; replace BK391 := kp BK391 hk NB391_0; replace HO395 := am (Kd.R_mono (Kd.R_keep (IsS148.apart (show IsS148 w0 _ g s0_0 t401 t402 from u119HI0) (ro HO395) (by decide)) hk (fun _ h => h.2)) (fun _ h => h.1)); replace BK399 := kp BK399 hk NB399_0; replace HO405 := am (Kd.R_mono (Kd.R_keep (IsS148.apart (show IsS148 w0 _ g s0_0 t401 t402 from u119HI0) (ro HO405) (by decide)) hk (fun _ h => h.2)) (fun _ h => h.1)); replace HK := am (KeepBut.trans u119HK hk (.inl rfl)); replace HB := am (hb); replace HI0 := am (hi); clear hb hk hi; obtain ⟨z18_0, y18_0, z18_1, y18_1, z18_2, y18_2⟩ := cl3 BK399; have hnb19 := NB391_0.out; have hnc19 := NB0_391.out; obtain ⟨z20_0, y20_0, z20_1, y20_1, z20_2, y20_2⟩ := cl3 BK391))
  refine bodyPost_ret (results_cell_row rfl _ _ gb391 29 #[.int .i64 t406, .slice Ao12 t393.length co12, .string t396] (0, 0) _ rfl (pt1 BK391 NB391_399) Tryz.underlying29 rfl (by kernel_rfl)) rfl ?_
  exact ⟨_, rf, rg (Kd.R_types (Kd.R_types HO395.out BK399.out (by decide)) BK391.out (by decide)), u119HI0, u119HB, u119HK⟩
 rw [if_neg c4] at H
 have c4b0 : (t400 == 0) = false := beq_eq_false_iff_ne.mpr c4
 have c4b1 : (t400 != 0) = true := bne_iff_ne.mpr c4
 by_cases c21 : t400 = 1
 ·rw [if_pos c21] at H
  have c21b0 : (t400 == 1) = true := beq_iff_eq.mpr c21
  have c21b1 : (t400 != 1) = false := bne_eq_false_iff_eq.mpr c21
  clear c21
  revert H
  refine ok3 fun t409 t412 t413 A22 H => ?_
  (try dsimp only at H)
  simp only [Option.some.injEq, Prod.mk.injEq] at H
  obtain ⟨rfl, rfl, rfl, rfl, rfl⟩ := H
  go_enter Tryz.func119, Tryz.ntmps119
  go_wp2_with (first | (refine bx 2 #[.int .i64 0, .slice none 0 0, .string (⟨#[]⟩ : ByteArray)] 29 ?_; intro gb391 hg w23 hbox hb; have n0_ := am (IsS148.below u119HI0 hb); have n1_ := am (KeepBut.trans u119HK (KeepBut.of_below hb g none) (.inl rfl)); have n2_ := am (below_step u119HB hb); have n3_ := am (hbox); have n4_ := am ((by rw [hg]; exact (keep_size (w := w) (g := g) (row := none) u119HK) : w.heap.size ≤ gb391)); have n5_ := am ((Nat.le_trans HW0.out (by rw [hg]; exact (keep_size (w := w) (g := g) (row := none) u119HK) : w.heap.size ≤ gb391) : w0.heap.size ≤ gb391)); have n6_ := am ((by rw [hg]; exact Nat.ne_of_lt (IsS148.lt (show IsS148 w0 _ g s0_0 s0_1 s0_2 from u119HI0)) : g ≠ gb391)); have n7_ := am ((by rw [hg]; exact Nat.ne_of_gt (IsS148.lt (show IsS148 w0 _ g s0_0 s0_1 s0_2 from u119HI0)) : gb391 ≠ g)); clear HI0; clear HK; clear HB; have HI0 := n0_; have HK := n1_; have HB := n2_; have BK391 := n3_; have GW391 := n4_; have GE391 := n5_; have NB0_391 := n6_; have NB391_0 := n7_; clear n0_ n1_ n2_ n3_ n4_ n5_ n6_ n7_; clear hb hbox hg) | (refine gl 5 Tryz.func139 #[.pointer (some ⟨g, 0, none⟩)] ?_; (with_reducible refine (spec_l3DrawResp.calls k g s0_0 s0_1 s0_2 t392 t393 t396 t397 t398 w0 _ ?side1 ?side2 A2.out).mono ?_); (case side1 => exact u119HI0); (case side2 => exact u119HB); rintro e w24 ⟨v394, rfl, ho0, hi, hb, hk⟩; refine ⟨_, rfl, ?_⟩; replace BK391 := kp BK391 hk NB391_0; have HO395 := am (Kd.R_lower ho0 (keep_size (w := w) (g := g) (row := none) u119HK)); replace HK := am (KeepBut.trans u119HK hk (.inl rfl)); replace HB := am (hb); replace HI0 := am (hi); clear hb hk hi ho0) | (refine bx 3 #[.int .i64 0, .slice none 0 0, .string (⟨#[]⟩ : ByteArray)] 29 ?_; intro gb399 hg w25 hbox hb; have n0_ := am (Kd.R_below (ro HO395) hb); have n1_ := am (IsS148.below u119HI0 hb); have n2_ := kb BK391 hb; have n3_ := am (KeepBut.trans u119HK (KeepBut.of_below hb g none) (.inl rfl)); have n4_ := am (below_step u119HB hb); have n5_ := am (hbox); have n6_ := am ((by rw [hg]; exact (keep_size (w := w) (g := g) (row := none) u119HK) : w.heap.size ≤ gb399)); have n7_ := am ((Nat.le_trans HW0.out (by rw [hg]; exact (keep_size (w := w) (g := g) (row := none) u119HK) : w.heap.size ≤ gb399) : w0.heap.size ≤ gb399)); have n8_ := am (nl hg BK391 : gb391 ≠ gb399); have n9_ := am (ng hg BK391 : gb399 ≠ gb391); have n10_ := am ((by rw [hg]; exact Nat.ne_of_lt (IsS148.lt (show IsS148 w0 _ g s0_0 t397 t398 from u119HI0)) : g ≠ gb399)); have n11_ := am ((by rw [hg]; exact Nat.ne_of_gt (IsS148.lt (show IsS148 w0 _ g s0_0 t397 t398 from u119HI0)) : gb399 ≠ g)); clear HO395; clear HI0; clear BK391; clear HK; clear HB; have HO395 := n0_; have HI0 := n1_; have BK391 := n2_; have HK := n3_; have HB := n4_; have BK399 := n5_; have GW399 := n6_; have GE399 := n7_; have NB391_399 := n8_; have NB399_391 := n9_; have NB0_399 := n10_; have NB399_0 := n11_; clear n0_ n1_ n2_ n3_ n4_ n5_ n6_ n7_ n8_ n9_ n10_ n11_; clear hb hbox hg; have hnb26 := NB399_391.out; have hnc26 := NB391_399.out; have hnb27 := NB399_0.out; have hnc27 := NB0_399.out; obtain ⟨z28_0, y28_0, z28_1, y28_1, z28_2, y28_2⟩ := cl3 BK399; obtain ⟨Ao29, co29, eo29⟩ := Kd.R_slice HO395.out; subst eo29) | (refine gl 7 Tryz.func86 #[.pointer (some ⟨g, 0, none⟩), .int .i64 20] ?_; (with_reducible refine (spec_l1Below.calls g s0_0 t397 t398 20 t400 t401 t402 w0 _ ?side1 ?side2 A3.out).mono ?_); (case side1 => exact u119HI0); (case side2 => exact u119HB); rintro e w30 ⟨rfl, hi, hb, hk⟩; refine ⟨_, rfl, ?_⟩; have n0_ := am (KeepBut.blk hk (g' := gb391) (o := .cells #[.int .i64 0, .slice none 0 0, .string (⟨#[]⟩ : ByteArray)] 29 (0, 0)) (bg1 BK391 NB391_399) NB391_0.out (by simp)); have n1_ := am (Kd.R_mono (Kd.R_keep (IsS148.apart (show IsS148 w0 _ g s0_0 t397 t398 from u119HI0) (by (with_reducible repeat (first | apply Kd.R_alloc | apply Kd.R_drewN | apply Kd.R_drew)); exact (Kd.R_mono (Kd.R_far (p := ⟨gb399, 2, none⟩) (Kd.R_far (p := ⟨gb399, 1, none⟩) (Kd.R_far (p := ⟨gb399, 0, none⟩) (Kd.R_types HO395.out BK399.out (by decide)) (fun _ hk => hk.2) (.int .i64 t392)) (fun _ hk => hk.2) (.slice Ao29 t393.length co29)) (fun _ hk => hk.2) (.string t396)) (fun _ h_ => h_.1))) (by decide)) hk (fun _ h => h.2)) (fun _ h => h.1)); have n2_ := am (KeepBut.blk hk (g' := gb399) (o := .cells #[.int .i64 t392, .slice Ao29 t393.length co29, .string t396] 29 (0, 0)) (pt0 BK399) NB399_0.out (by simp)); have n3_ := am (KeepBut.trans u119HK hk (.inl rfl)); have n4_ := am (hb); have n5_ := am (hi); clear BK391; clear HO395; clear BK399; clear HK; clear HB; clear HI0; have BK391 := n0_; have HO395 := n1_; have BK399 := n2_; have HK := n3_; have HB := n4_; have HI0 := n5_; clear n0_ n1_ n2_ n3_ n4_ n5_; clear hb hk hi) | (refine gl 17 Tryz.func109 #[.pointer (some ⟨g, 0, none⟩)] ?_; (with_reducible refine (spec_l2Draw.calls k g s0_0 t401 t402 t409 t412 t413 w0 _ ?side1 ?side2 A22.out).mono ?_); (case side1 => exact u119HI0); (case side2 => exact u119HB); rintro e w31 ⟨v410, rfl, ho0, hi, hb, hk⟩; refine ⟨_, rfl, ?_⟩; replace BK391 := kp BK391 hk NB391_0; replace BK399 := kp BK399 hk NB399_0; have HO411 := am (Kd.R_lower (Kd.R_new' ho0 (Kd.R_lt (ro HO395))) (keep_size (w := w) (g := g) (row := none) u119HK)); replace HO395 := am (Kd.R_mono (Kd.R_told (Kd.R_oldK (IsS148.apart (show IsS148 w0 _ g s0_0 t401 t402 from u119HI0) (ro HO395) (by decide)) hk) (Kd.R_base ho0)) (fun _ h_ => h_.1)); replace HK := am (KeepBut.trans u119HK hk (.inl rfl)); replace HB := am (hb); replace HI0 := am (hi); clear hb hk hi ho0; obtain ⟨Ao32, co32, eo32⟩ := Kd.R_slice HO411.out; subst eo32; obtain ⟨z33_0, y33_0, z33_1, y33_1, z33_2, y33_2⟩ := cl3 BK399; have hnb34 := NB391_0.out; have hnc34 := NB0_391.out; obtain ⟨z35_0, y35_0, z35_1, y35_1, z35_2, y35_2⟩ := cl3 BK391))
  refine bodyPost_ret (results_cell_row rfl _ _ gb391 29 #[.int .i64 t392, .slice Ao32 t409.length co32, .string t396] (0, 0) _ rfl (pt1 BK391 NB391_399) Tryz.underlying29 rfl (by kernel_rfl)) rfl ?_
  exact ⟨_, rf, rg (Kd.R_types (Kd.R_types HO411.out BK399.out (by decide)) BK391.out (by decide)), u119HI0, u119HB, u119HK⟩
 rw [if_neg c21] at H
 have c21b0 : (t400 == 1) = false := beq_eq_false_iff_ne.mpr c21
 have c21b1 : (t400 != 1) = true := bne_iff_ne.mpr c21
 by_cases c36 : t400 = 2
 rotate_left
 ·rw [if_neg c36] at H
  have c36b0 : (t400 == 2) = false := beq_eq_false_iff_ne.mpr c36
  have c36b1 : (t400 != 2) = true := bne_iff_ne.mpr c36
  simp only [Option.some.injEq, Prod.mk.injEq] at H
  obtain ⟨rfl, rfl, rfl, rfl, rfl⟩ := H
  go_enter Tryz.func119, Tryz.ntmps119
  go_wp2_with (first | (refine bx 2 #[.int .i64 0, .slice none 0 0, .string (⟨#[]⟩ : ByteArray)] 29 ?_; intro gb391 hg w60 hbox hb; have n0_ := am (IsS148.below u119HI0 hb); have n1_ := am (KeepBut.trans u119HK (KeepBut.of_below hb g none) (.inl rfl)); have n2_ := am (below_step u119HB hb); have n3_ := am (hbox); have n4_ := am ((by rw [hg]; exact (keep_size (w := w) (g := g) (row := none) u119HK) : w.heap.size ≤ gb391)); have n5_ := am ((Nat.le_trans HW0.out (by rw [hg]; exact (keep_size (w := w) (g := g) (row := none) u119HK) : w.heap.size ≤ gb391) : w0.heap.size ≤ gb391)); have n6_ := am ((by rw [hg]; exact Nat.ne_of_lt (IsS148.lt (show IsS148 w0 _ g s0_0 s0_1 s0_2 from u119HI0)) : g ≠ gb391)); have n7_ := am ((by rw [hg]; exact Nat.ne_of_gt (IsS148.lt (show IsS148 w0 _ g s0_0 s0_1 s0_2 from u119HI0)) : gb391 ≠ g)); clear HI0; clear HK; clear HB; have HI0 := n0_; have HK := n1_; have HB := n2_; have BK391 := n3_; have GW391 := n4_; have GE391 := n5_; have NB0_391 := n6_; have NB391_0 := n7_; clear n0_ n1_ n2_ n3_ n4_ n5_ n6_ n7_; clear hb hbox hg) | (refine gl 5 Tryz.func139 #[.pointer (some ⟨g, 0, none⟩)] ?_; (with_reducible refine (spec_l3DrawResp.calls k g s0_0 s0_1 s0_2 t392 t393 t396 t397 t398 w0 _ ?side1 ?side2 A2.out).mono ?_); (case side1 => exact u119HI0); (case side2 => exact u119HB); rintro e w61 ⟨v394, rfl, ho0, hi, hb, hk⟩; refine ⟨_, rfl, ?_⟩; replace BK391 := kp BK391 hk NB391_0; have HO395 := am (Kd.R_lower ho0 (keep_size (w := w) (g := g) (row := none) u119HK)); replace HK := am (KeepBut.trans u119HK hk (.inl rfl)); replace HB := am (hb); replace HI0 := am (hi); clear hb hk hi ho0) | (refine bx 3 #[.int .i64 0, .slice none 0 0, .string (⟨#[]⟩ : ByteArray)] 29 ?_; intro gb399 hg w62 hbox hb; have n0_ := am (Kd.R_below (ro HO395) hb); have n1_ := am (IsS148.below u119HI0 hb); have n2_ := kb BK391 hb; have n3_ := am (KeepBut.trans u119HK (KeepBut.of_below hb g none) (.inl rfl)); have n4_ := am (below_step u119HB hb); have n5_ := am (hbox); have n6_ := am ((by rw [hg]; exact (keep_size (w := w) (g := g) (row := none) u119HK) : w.heap.size ≤ gb399)); have n7_ := am ((Nat.le_trans HW0.out (by rw [hg]; exact (keep_size (w := w) (g := g) (row := none) u119HK) : w.heap.size ≤ gb399) : w0.heap.size ≤ gb399)); have n8_ := am (nl hg BK391 : gb391 ≠ gb399); have n9_ := am (ng hg BK391 : gb399 ≠ gb391); have n10_ := am ((by rw [hg]; exact Nat.ne_of_lt (IsS148.lt (show IsS148 w0 _ g s0_0 t397 t398 from u119HI0)) : g ≠ gb399)); have n11_ := am ((by rw [hg]; exact Nat.ne_of_gt (IsS148.lt (show IsS148 w0 _ g s0_0 t397 t398 from u119HI0)) : gb399 ≠ g)); clear HO395; clear HI0; clear BK391; clear HK; clear HB; have HO395 := n0_; have HI0 := n1_; have BK391 := n2_; have HK := n3_; have HB := n4_; have BK399 := n5_; have GW399 := n6_; have GE399 := n7_; have NB391_399 := n8_; have NB399_391 := n9_; have NB0_399 := n10_; have NB399_0 := n11_; clear n0_ n1_ n2_ n3_ n4_ n5_ n6_ n7_ n8_ n9_ n10_ n11_; clear hb hbox hg; have hnb63 := NB399_391.out; have hnc63 := NB391_399.out; have hnb64 := NB399_0.out; have hnc64 := NB0_399.out; obtain ⟨z65_0, y65_0, z65_1, y65_1, z65_2, y65_2⟩ := cl3 BK399; obtain ⟨Ao66, co66, eo66⟩ := Kd.R_slice HO395.out; subst eo66) | (refine gl 7 Tryz.func86 #[.pointer (some ⟨g, 0, none⟩), .int .i64 20] ?_; (with_reducible refine (spec_l1Below.calls g s0_0 t397 t398 20 t400 t401 t402 w0 _ ?side1 ?side2 A3.out).mono ?_); (case side1 => exact u119HI0); (case side2 => exact u119HB); rintro e w67 ⟨rfl, hi, hb, hk⟩; refine ⟨_, rfl, ?_⟩; have n0_ := am (KeepBut.blk hk (g' := gb391) (o := .cells #[.int .i64 0, .slice none 0 0, .string (⟨#[]⟩ : ByteArray)] 29 (0, 0)) (bg1 BK391 NB391_399) NB391_0.out (by simp)); have n1_ := am (Kd.R_mono (Kd.R_keep (IsS148.apart (show IsS148 w0 _ g s0_0 t397 t398 from u119HI0) (by (with_reducible repeat (first | apply Kd.R_alloc | apply Kd.R_drewN | apply Kd.R_drew)); exact (Kd.R_mono (Kd.R_far (p := ⟨gb399, 2, none⟩) (Kd.R_far (p := ⟨gb399, 1, none⟩) (Kd.R_far (p := ⟨gb399, 0, none⟩) (Kd.R_types HO395.out BK399.out (by decide)) (fun _ hk => hk.2) (.int .i64 t392)) (fun _ hk => hk.2) (.slice Ao66 t393.length co66)) (fun _ hk => hk.2) (.string t396)) (fun _ h_ => h_.1))) (by decide)) hk (fun _ h => h.2)) (fun _ h => h.1)); have n2_ := am (KeepBut.blk hk (g' := gb399) (o := .cells #[.int .i64 t392, .slice Ao66 t393.length co66, .string t396] 29 (0, 0)) (pt0 BK399) NB399_0.out (by simp)); have n3_ := am (KeepBut.trans u119HK hk (.inl rfl)); have n4_ := am (hb); have n5_ := am (hi); clear BK391; clear HO395; clear BK399; clear HK; clear HB; clear HI0; have BK391 := n0_; have HO395 := n1_; have BK399 := n2_; have HK := n3_; have HB := n4_; have HI0 := n5_; clear n0_ n1_ n2_ n3_ n4_ n5_; clear hb hk hi; obtain ⟨z68_0, y68_0, z68_1, y68_1, z68_2, y68_2⟩ := cl3 BK399; have hnb69 := NB391_0.out; have hnc69 := NB0_391.out; obtain ⟨z70_0, y70_0, z70_1, y70_1, z70_2, y70_2⟩ := cl3 BK391))
  refine bodyPost_ret (results_cell_row rfl _ _ gb391 29 #[.int .i64 t392, .slice Ao66 t393.length co66, .string t396] (0, 0) _ rfl (pt0 BK391) Tryz.underlying29 rfl (by kernel_rfl)) rfl ?_
  exact ⟨_, rf, rg (Kd.R_types HO395.out BK391.out (by decide)), u119HI0, u119HB, u119HK⟩
 rw [if_pos c36] at H
 have c36b0 : (t400 == 2) = true := beq_iff_eq.mpr c36
 have c36b1 : (t400 != 2) = false := bne_eq_false_iff_eq.mpr c36
 clear c36
 have H' := am H
 clear H
 go_enter Tryz.func119, Tryz.ntmps119
 go_wp2_with (first | (refine bx 2 #[.int .i64 0, .slice none 0 0, .string (⟨#[]⟩ : ByteArray)] 29 ?_; intro gb391 hg w37 hbox hb; have n0_ := am (IsS148.below u119HI0 hb); have n1_ := am (KeepBut.trans u119HK (KeepBut.of_below hb g none) (.inl rfl)); have n2_ := am (below_step u119HB hb); have n3_ := am (hbox); have n4_ := am ((by rw [hg]; exact (keep_size (w := w) (g := g) (row := none) u119HK) : w.heap.size ≤ gb391)); have n5_ := am ((Nat.le_trans HW0.out (by rw [hg]; exact (keep_size (w := w) (g := g) (row := none) u119HK) : w.heap.size ≤ gb391) : w0.heap.size ≤ gb391)); have n6_ := am ((by rw [hg]; exact Nat.ne_of_lt (IsS148.lt (show IsS148 w0 _ g s0_0 s0_1 s0_2 from u119HI0)) : g ≠ gb391)); have n7_ := am ((by rw [hg]; exact Nat.ne_of_gt (IsS148.lt (show IsS148 w0 _ g s0_0 s0_1 s0_2 from u119HI0)) : gb391 ≠ g)); clear HI0; clear HK; clear HB; have HI0 := n0_; have HK := n1_; have HB := n2_; have BK391 := n3_; have GW391 := n4_; have GE391 := n5_; have NB0_391 := n6_; have NB391_0 := n7_; clear n0_ n1_ n2_ n3_ n4_ n5_ n6_ n7_; clear hb hbox hg) | (refine gl 5 Tryz.func139 #[.pointer (some ⟨g, 0, none⟩)] ?_; (with_reducible refine (spec_l3DrawResp.calls k g s0_0 s0_1 s0_2 t392 t393 t396 t397 t398 w0 _ ?side1 ?side2 A2.out).mono ?_); (case side1 => exact u119HI0); (case side2 => exact u119HB); rintro e w38 ⟨v394, rfl, ho0, hi, hb, hk⟩; refine ⟨_, rfl, ?_⟩; replace BK391 := kp BK391 hk NB391_0; have HO395 := am (Kd.R_lower ho0 (keep_size (w := w) (g := g) (row := none) u119HK)); replace HK := am (KeepBut.trans u119HK hk (.inl rfl)); replace HB := am (hb); replace HI0 := am (hi); clear hb hk hi ho0) | (refine bx 3 #[.int .i64 0, .slice none 0 0, .string (⟨#[]⟩ : ByteArray)] 29 ?_; intro gb399 hg w39 hbox hb; have n0_ := am (Kd.R_below (ro HO395) hb); have n1_ := am (IsS148.below u119HI0 hb); have n2_ := kb BK391 hb; have n3_ := am (KeepBut.trans u119HK (KeepBut.of_below hb g none) (.inl rfl)); have n4_ := am (below_step u119HB hb); have n5_ := am (hbox); have n6_ := am ((by rw [hg]; exact (keep_size (w := w) (g := g) (row := none) u119HK) : w.heap.size ≤ gb399)); have n7_ := am ((Nat.le_trans HW0.out (by rw [hg]; exact (keep_size (w := w) (g := g) (row := none) u119HK) : w.heap.size ≤ gb399) : w0.heap.size ≤ gb399)); have n8_ := am (nl hg BK391 : gb391 ≠ gb399); have n9_ := am (ng hg BK391 : gb399 ≠ gb391); have n10_ := am ((by rw [hg]; exact Nat.ne_of_lt (IsS148.lt (show IsS148 w0 _ g s0_0 t397 t398 from u119HI0)) : g ≠ gb399)); have n11_ := am ((by rw [hg]; exact Nat.ne_of_gt (IsS148.lt (show IsS148 w0 _ g s0_0 t397 t398 from u119HI0)) : gb399 ≠ g)); clear HO395; clear HI0; clear BK391; clear HK; clear HB; have HO395 := n0_; have HI0 := n1_; have BK391 := n2_; have HK := n3_; have HB := n4_; have BK399 := n5_; have GW399 := n6_; have GE399 := n7_; have NB391_399 := n8_; have NB399_391 := n9_; have NB0_399 := n10_; have NB399_0 := n11_; clear n0_ n1_ n2_ n3_ n4_ n5_ n6_ n7_ n8_ n9_ n10_ n11_; clear hb hbox hg; have hnb40 := NB399_391.out; have hnc40 := NB391_399.out; have hnb41 := NB399_0.out; have hnc41 := NB0_399.out; obtain ⟨z42_0, y42_0, z42_1, y42_1, z42_2, y42_2⟩ := cl3 BK399; obtain ⟨Ao43, co43, eo43⟩ := Kd.R_slice HO395.out; subst eo43) | (refine gl 7 Tryz.func86 #[.pointer (some ⟨g, 0, none⟩), .int .i64 20] ?_; (with_reducible refine (spec_l1Below.calls g s0_0 t397 t398 20 t400 t401 t402 w0 _ ?side1 ?side2 A3.out).mono ?_); (case side1 => exact u119HI0); (case side2 => exact u119HB); rintro e w44 ⟨rfl, hi, hb, hk⟩; refine ⟨_, rfl, ?_⟩; have n0_ := am (KeepBut.blk hk (g' := gb391) (o := .cells #[.int .i64 0, .slice none 0 0, .string (⟨#[]⟩ : ByteArray)] 29 (0, 0)) (bg1 BK391 NB391_399) NB391_0.out (by simp)); have n1_ := am (Kd.R_mono (Kd.R_keep (IsS148.apart (show IsS148 w0 _ g s0_0 t397 t398 from u119HI0) (by (with_reducible repeat (first | apply Kd.R_alloc | apply Kd.R_drewN | apply Kd.R_drew)); exact (Kd.R_mono (Kd.R_far (p := ⟨gb399, 2, none⟩) (Kd.R_far (p := ⟨gb399, 1, none⟩) (Kd.R_far (p := ⟨gb399, 0, none⟩) (Kd.R_types HO395.out BK399.out (by decide)) (fun _ hk => hk.2) (.int .i64 t392)) (fun _ hk => hk.2) (.slice Ao43 t393.length co43)) (fun _ hk => hk.2) (.string t396)) (fun _ h_ => h_.1))) (by decide)) hk (fun _ h => h.2)) (fun _ h => h.1)); have n2_ := am (KeepBut.blk hk (g' := gb399) (o := .cells #[.int .i64 t392, .slice Ao43 t393.length co43, .string t396] 29 (0, 0)) (pt0 BK399) NB399_0.out (by simp)); have n3_ := am (KeepBut.trans u119HK hk (.inl rfl)); have n4_ := am (hb); have n5_ := am (hi); clear BK391; clear HO395; clear BK399; clear HK; clear HB; clear HI0; have BK391 := n0_; have HO395 := n1_; have BK399 := n2_; have HK := n3_; have HB := n4_; have HI0 := n5_; clear n0_ n1_ n2_ n3_ n4_ n5_; clear hb hk hi))
 (try simp only [Act.put, List.setIfInBounds_toArray, List.set_cons_zero, List.set_cons_succ])
 go_loopg [] k (fun kq w' => ∃ (x1001_1 : Int) (x1002_1 : Int) (x400002_1 : ByteArray), Aside0 (spec_l3DrawBadResp.l0 kq s0_0 x1001_1 x1002_1 t392 t393 x400002_1 = some (r1, r2, r3, r4, r5)) ∧ Aside0 (kq ≤ k) ∧ Aside0 (Kd.R k116 116 w' w.heap.size (fun _ => True) (.slice Ao43 t393.length co43) t393) ∧ Aside0 (w'.heap[gb391]? = some (.cells #[.int .i64 0, (.slice none 0 0), .string (⟨#[]⟩ : ByteArray)] 29 (0, 0))) ∧ Aside0 (w'.heap[gb399]? = some (.cells #[.int .i64 t392, (.slice Ao43 t393.length co43), .string x400002_1] 29 (0, 0))) ∧ Aside0 (IsS148 w0 w' g s0_0 x1001_1 x1002_1) ∧ Aside0 (KeepBut w w' g none) ∧ Aside0 (Below w0.heap.size w0 w'))
 case atStart => exact ⟨(t401), (t402), (t396), H', ⟨Nat.le_refl _⟩, ⟨by (with_reducible repeat (first | apply Kd.R_alloc | apply Kd.R_drewN | apply Kd.R_drew)); exact HO395.out⟩, ⟨by (with_reducible repeat (first | refine blk_drewN ?_ _ | refine blk_drew ?_ | refine blk_alloc ?_ _)); exact BK391.out⟩, ⟨by (with_reducible repeat (first | refine blk_drewN ?_ _ | refine blk_drew ?_ | refine blk_alloc ?_ _)); exact BK399.out⟩, ⟨u119HI0⟩, ⟨u119HK⟩, ⟨u119HB⟩⟩
 case round =>
  clear H'
  try clear c1
  try clear c2
  try clear p2
  try clear c3
  try clear c4
  try clear c4b0
  try clear c4b1
  try clear c8
  try clear c9
  try clear c10
  try clear c11
  try clear c13
  try clear c19
  try clear c21
  try clear c21b0
  try clear c21b1
  try clear c26
  try clear c27
  try clear c34
  try clear c36
  try clear c36b0
  try clear c36b1
  try clear c40
  try clear c41
  try clear z11_0
  try clear z11_1
  try clear z11_2
  try clear z18_0
  try clear z18_1
  try clear z18_2
  try clear z20_0
  try clear z20_1
  try clear z20_2
  try clear z28_0
  try clear z28_1
  try clear z28_2
  try clear z33_0
  try clear z33_1
  try clear z33_2
  try clear z35_0
  try clear z35_1
  try clear z35_2
  try clear z42_0
  try clear z42_1
  try clear z42_2
  try clear y11_0
  try clear y11_1
  try clear y11_2
  try clear y18_0
  try clear y18_1
  try clear y18_2
  try clear y20_0
  try clear y20_1
  try clear y20_2
  try clear y28_0
  try clear y28_1
  try clear y28_2
  try clear y33_0
  try clear y33_1
  try clear y33_2
  try clear y35_0
  try clear y35_1
  try clear y35_2
  try clear y42_0
  try clear y42_1
  try clear y42_2
  obtain ⟨x1001_1, x1002_1, x400002_1, HA, HK1, HO_400001, BK391, BK399, HI0, HK, HB⟩ := hrel
  cases gk with
  | zero => exact absurd HA.out (by simp [spec_l3DrawBadResp.l0])
  | succ k1 =>
   have H := HA.out
   clear HA
   simp only [spec_l3DrawBadResp.l0] at H
   revert H
   refine ok3 fun t414 t415 t416 A45 H => ?_
   (try dsimp only at H)
   by_cases c46 : (x400002_1.size : Int) < (wrap64 (120 + t414))
   rotate_left
   ·rw [if_neg c46] at H
    have c46b0 := decide_eq_false c46
    clear c46
    simp only [Option.some.injEq, Prod.mk.injEq] at H
    obtain ⟨rfl, rfl, rfl, rfl, rfl⟩ := H
    try go_wp2
    replace HO_400001 := am (Kd.R_drew HO_400001.out)
    replace BK391 := am (blk_drew BK391.out)
    replace BK399 := am (blk_drew BK399.out)
    replace HI0 := am (IsS148.drew HI0.out)
    replace HK := am (keep_drew HK.out)
    replace HB := am (below_drew1 HB.out)
    refine start_ (n := 7) (S := fun w' => w'.cell? ⟨gb399, 0, none⟩ = some (.int .i64 t392) ∧ w'.cell? ⟨gb399, 1, none⟩ = some (.slice Ao43 t393.length co43) ∧ w'.cell? ⟨gb399, 2, none⟩ = some (.string x400002_1)) (ds := []) ⟨br true [0, 7]⟩ (by kernel_rfl) rfl (by kernel_rfl) ⟨bc BK399, bc BK399, bc BK399⟩ (fun hHeld => ?_)
    generalize wr.drew = w53 at HO_400001 BK391 BK399 HI0 HK HB hHeld ⊢
    refine pu 0 21 [1, 6] ?_
    refine pu 3 24 [1, 2, 1, 3] ?_
    refine tk 1 22 [2, 1, 1, 3] ?_
    refine pu 2 23 [4, 3] ?_
    refine og 4 25 [5, 2] Tryz.func86 #[.pointer (some ⟨g, 0, none⟩), .int .i64 2] (fun K hK => ?_)
    with_reducible refine (spec_l1Below.calls g s0_0 x1001_1 x1002_1 2 t414 t415 t416 w0 _ ?side1 ?side2 A45.out).mono ?_
    (case side1 => exact u119HI0)
    (case side2 => exact u119HB)
    rintro e w54 ⟨rfl, hi, hb, hk⟩
    refine ⟨_, rfl, ?_⟩
    replace HO_400001 := am (Kd.R_mono (Kd.R_keep (IsS148.apart (show IsS148 w0 _ g s0_0 x1001_1 x1002_1 from u119HI0) (ro HO_400001) (by decide)) hk (fun _ h => h.2)) (fun _ h => h.1))
    replace BK391 := kp BK391 hk NB391_0
    replace BK399 := kp BK399 hk NB399_0
    replace HK := am (KeepBut.trans u119HK hk (.inl rfl))
    replace HB := am (hb)
    replace HI0 := am (hi)
    clear hb hk hi
    refine hK.out _ _ ⟨bc BK399, bc BK399, bc BK399⟩ (fun hHeld => ?_)
    clear hK K
    refine nm 25 ?_
    refine pu 5 26 [6, 1] ?_
    refine pu 6 27 [7] ?_
    refine done_ (by kernel_rfl) ?_
    have hnb55 := NB399_391.out
    have hnc55 := NB391_399.out
    have hnb56 := NB399_0.out
    have hnc56 := NB0_399.out
    obtain ⟨z57_0, y57_0, z57_1, y57_1, z57_2, y57_2⟩ := cl3 BK399
    have hnb58 := NB391_0.out
    have hnc58 := NB0_391.out
    obtain ⟨z59_0, y59_0, z59_1, y59_1, z59_2, y59_2⟩ := cl3 BK391
    try go_wp2
    refine bodyPost_ret (results_cell_row rfl _ _ gb391 29 #[.int .i64 t392, .slice Ao43 t393.length co43, .string x400002_1] (0, 0) _ rfl (pt0 BK391) Tryz.underlying29 rfl (by kernel_rfl)) rfl ?_
    exact ⟨_, rf, rg (Kd.R_types HO_400001.out BK391.out (by decide)), u119HI0, u119HB, u119HK⟩
   rw [if_pos c46] at H
   have c46b0 := decide_eq_true c46
   clear c46
   revert H
   refine ifn fun c47 H => ?_
   have c47b0 := eq_true c47
   have c47b1 := decide_eq_true c47
   try have c47b2 := eq_false (Nat.not_lt.2 c47)
   have H' := am H
   clear H
   try go_wp2
   replace HO_400001 := am (Kd.R_drew HO_400001.out)
   replace BK391 := am (blk_drew BK391.out)
   replace BK399 := am (blk_drew BK399.out)
   replace HI0 := am (IsS148.drew HI0.out)
   replace HK := am (keep_drew HK.out)
   replace HB := am (below_drew1 HB.out)
   refine start_ (n := 7) (S := fun w' => w'.cell? ⟨gb399, 0, none⟩ = some (.int .i64 t392) ∧ w'.cell? ⟨gb399, 1, none⟩ = some (.slice Ao43 t393.length co43) ∧ w'.cell? ⟨gb399, 2, none⟩ = some (.string x400002_1)) (ds := []) ⟨br true [0, 7]⟩ (by kernel_rfl) rfl (by kernel_rfl) ⟨bc BK399, bc BK399, bc BK399⟩ (fun hHeld => ?_)
   generalize wr.drew = w48 at HO_400001 BK391 BK399 HI0 HK HB hHeld ⊢
   refine pu 0 21 [1, 6] ?_
   refine pu 3 24 [1, 2, 1, 3] ?_
   refine tk 1 22 [2, 1, 1, 3] ?_
   refine pu 2 23 [4, 3] ?_
   refine og 4 25 [5, 2] Tryz.func86 #[.pointer (some ⟨g, 0, none⟩), .int .i64 2] (fun K hK => ?_)
   with_reducible refine (spec_l1Below.calls g s0_0 x1001_1 x1002_1 2 t414 t415 t416 w0 _ ?side1 ?side2 A45.out).mono ?_
   (case side1 => exact u119HI0)
   (case side2 => exact u119HB)
   rintro e w49 ⟨rfl, hi, hb, hk⟩
   refine ⟨_, rfl, ?_⟩
   replace HO_400001 := am (Kd.R_mono (Kd.R_keep (IsS148.apart (show IsS148 w0 _ g s0_0 x1001_1 x1002_1 from u119HI0) (ro HO_400001) (by decide)) hk (fun _ h => h.2)) (fun _ h => h.1))
   replace BK391 := kp BK391 hk NB391_0
   replace BK399 := kp BK399 hk NB399_0
   replace HK := am (KeepBut.trans u119HK hk (.inl rfl))
   replace HB := am (hb)
   replace HI0 := am (hi)
   clear hb hk hi
   refine hK.out _ _ ⟨bc BK399, bc BK399, bc BK399⟩ (fun hHeld => ?_)
   clear hK K
   refine nm 25 ?_
   refine pu 5 26 [6, 1] ?_
   refine pu 6 27 [7] ?_
   refine done_ (by kernel_rfl) ?_
   have hnb50 := NB399_391.out
   have hnc50 := NB391_399.out
   have hnb51 := NB399_0.out
   have hnc51 := NB0_399.out
   obtain ⟨z52_0, y52_0, z52_1, y52_1, z52_2, y52_2⟩ := cl3 BK399
   try go_wp2
   go_roundg k1
   case measure => have := HK1.out; omega
   case rel => exact ⟨(t415), (t416), (x400002_1 ++ (⟨#[98]⟩ : ByteArray)), H', ⟨by have := HK1.out; omega⟩, ⟨rg (Kd.R_types HO_400001.out BK399.out (by decide))⟩, ⟨by (with_reducible repeat (first | refine blk_drewN ?_ _ | refine blk_drew ?_ | refine blk_alloc ?_ _)); refine blk_far ?_ NB391_399.out _; (with_reducible repeat (first | refine blk_drewN ?_ _ | refine blk_drew ?_ | refine blk_alloc ?_ _)); exact BK391.out⟩, ⟨pt0 BK399⟩, ⟨u119HI0⟩, ⟨u119HK⟩, ⟨u119HB⟩⟩

end Go.Proofs.YtdbgkookjpgnnaaGreatDoor.All
