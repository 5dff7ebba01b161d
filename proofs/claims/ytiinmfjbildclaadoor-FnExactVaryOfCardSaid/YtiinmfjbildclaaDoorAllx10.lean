-- Written by a program of this session (wip/tools/hprint.py) out of the translation. Lean checks it.
import Derived.Test.YtiinmfjbildclaaDoorAllx0
import Derived.Test.YtiinmfjbildclaaDoorAllx1
import Derived.Test.YtiinmfjbildclaaDoorAllx6
import Derived.Test.YtiinmfjbildclaaDoorAllx7
import Derived.Test.YtiinmfjbildclaaDoorAllx8
import Derived.Test.YtiinmfjbildclaaDoorAllx9
namespace Go.Proofs.YtiinmfjbildclaaDoor.All
open Go.RowKit Go.Proofs.YtiinmfjbildclaaDoorW.PrintWords Go.Proofs.YtiinmfjbildclaaDoorW.PrintLast Go.Proofs.YtiinmfjbildclaaDoorW.PrintMore
attribute [local go_sem] max2_int min2_int max_two min_two max_three min_three max_four min_four   -- for this text's walks alone
set_option linter.unusedVariables false
set_option linter.unusedSimpArgs false

/-! ### laws_markStringS: function 24 -/
def laws_markStringS.l0 : Nat → List ByteArray → Int → Int → Option (Int × List ByteArray)
 | 0, _, _, _ => none
 | k + 1, x0, x1, x5 => if x5 < (x0.length : Int) then ((laws_markText.f k x1).bind fun t179 => (if 0 ≤ x5 then (laws_markStringS.l0 k (x0.set (x5 : Int).toNat t179) (wrap64 (x1 + 1)) (wrap64 (x5 + 1))) else (none))) else (some (x1, x0))
def laws_markStringS.f (k : Nat) (l0 : List ByteArray) (a1 : Int) : Option (Int × List ByteArray) := laws_markStringS.l0 k l0 a1 0
theorem laws_markStringS.mono_l : ∀ k, (∀ y0 y1 y2, LeO (laws_markStringS.l0 k y0 y1 y2) (laws_markStringS.l0 (k + 1) y0 y1 y2))
 | 0 => fun _ _ _ r h => by simp [laws_markStringS.l0] at h
 | k + 1 => by
  have ih0 := laws_markStringS.mono_l k
  ·intro y0 y1 y2
   unfold laws_markStringS.l0
   repeat' first
   | (with_reducible exact ih0 _ _ _)
   | (with_reducible exact laws_markText.mono _ _)
   | (with_reducible exact LeO.refl _)
   | (with_reducible exact LeO.none _)
   | (with_reducible refine LeO.ite ?_ ?_)
   | (with_reducible refine LeO.bind ?_ (fun _ => ?_))
   | exact ih0 _ _ _
   | exact laws_markText.mono _ _
   | exact LeO.none _
   | refine LeO.ite ?_ ?_
   | refine LeO.bind ?_ (fun _ => ?_)
theorem laws_markStringS.mono : ∀ a0 a1 k, LeO (laws_markStringS.f k a0 a1) (laws_markStringS.f (k + 1) a0 a1) := by
 intro a0 a1 k
 have ih0 := laws_markStringS.mono_l k
 unfold laws_markStringS.f
 repeat' first
   | (with_reducible exact ih0 _ _ _)
   | (with_reducible exact laws_markText.mono _ _)
   | (with_reducible exact LeO.refl _)
   | (with_reducible exact LeO.none _)
   | (with_reducible refine LeO.ite ?_ ?_)
   | (with_reducible refine LeO.bind ?_ (fun _ => ?_))
   | exact ih0 _ _ _
   | exact laws_markText.mono _ _
   | exact LeO.none _
   | refine LeO.ite ?_ ?_
   | refine LeO.bind ?_ (fun _ => ?_)
set_option maxHeartbeats 8000000 in
set_option maxRecDepth 100000 in
theorem laws_markStringS.calls (k : Nat) (P0_ : Nat → Prop) (u9000_ : Value) (l0 : List ByteArray) (a1 : Int) (r1 : Int) (r2 : List ByteArray) (w0 w : World) (hB : Below w0.heap.size w0 w) (ho0 : Kd.R Kd.string 9 w w0.heap.size P0_ u9000_ l0) (h : laws_markStringS.f k l0 a1 = some (r1, r2)) :
  Calls Tryd.prog 24 #[u9000_, .int .i64 a1] w fun e w' => e = .returned (.int .i64 r1) ∧ Kd.R Kd.string 9 w' w0.heap.size (fun k_ => (P0_ k_ ∨ w.heap.size ≤ k_)) u9000_ r2 ∧ Below w0.heap.size w0 w' ∧ Kept w w' (fun k_ => P0_ k_) := by
 have HO0 := am (show Kd.R Kd.string 9 w w0.heap.size (fun k_ => (P0_ k_ ∨ w.heap.size ≤ k_)) u9000_ l0 from Kd.R_mono ho0 (fun k_ hk => (.inl hk)))
 have HK := am (Kept.refl w (fun k_ => P0_ k_))
 have HW0 := am hB.size
 have HB := am hB
 clear hB
 have H : (laws_markStringS.l0 k l0 a1 0) = some (r1, r2) := h
 clear h
 have H' := am H
 clear H
 go_enter Tryd.func24, Tryd.ntmps24
 go_wp2
 (try simp only [Act.put, List.setIfInBounds_toArray, List.set_cons_zero, List.set_cons_succ])
 go_loopg [1, 5] k (fun kq v1 v5 w' => ∃ (x0_1 : List ByteArray) (x1_1 : Int) (x5_1 : Int), v1 = .int .i64 x1_1 ∧ v5 = .int .i64 x5_1 ∧ Aside0 (laws_markStringS.l0 kq x0_1 x1_1 x5_1 = some (r1, r2)) ∧ Aside0 (kq ≤ k) ∧ Aside0 (Kd.R Kd.string 9 w' w0.heap.size (fun k_ => (P0_ k_ ∨ w.heap.size ≤ k_)) u9000_ x0_1) ∧ Aside0 (Kept w w' (fun k_ => P0_ k_)) ∧ Aside0 (Below w0.heap.size w0 w'))
 case atStart => exact ⟨(l0), (a1), (0), rs, rs, H', ⟨Nat.le_refl _⟩, ⟨by (with_reducible repeat (first | apply Kd.R_alloc | apply Kd.R_drewN | apply Kd.R_drew)); exact HO0.out⟩, ⟨by repeat (first | (with_reducible first | exact HK.out | apply Kept.alloc | apply Kept.drewN | apply Kept.drew) | exact HK.out)⟩, ⟨by repeat (first | (with_reducible first | exact HB.out | apply below_alloc | apply pw_below_drewN | apply below_drew1) | exact HB.out)⟩⟩
 case round =>
  clear H'
  try clear c2
  try clear p2
  obtain ⟨x0_1, x1_1, x5_1, rfl, rfl, HA, HK1, HO_0, HK, HB⟩ := hrel
  cases gk with
  | zero => exact absurd HA.out (by simp [laws_markStringS.l0])
  | succ k1 =>
   have H := HA.out
   clear HA
   simp only [laws_markStringS.l0] at H
   by_cases c3 : x5_1 < (x0_1.length : Int)
   ·rw [if_pos c3] at H
    have c3b0 : decide (x5_1 < (x0_1.length : Int)) = true := decide_eq_true c3
    clear c3
    replace H := ob H
    obtain ⟨t179, A40, H⟩ := H
    replace H : (if 0 ≤ x5_1 then (laws_markStringS.l0 k1 (x0_1.set (x5_1 : Int).toNat t179) (wrap64 (x1_1 + 1)) (wrap64 (x5_1 + 1))) else (none)) = some (r1, r2) := H
    have A4 := am A40
    clear A40
    by_cases c5 : 0 ≤ x5_1
    ·rw [if_pos c5] at H
     have c5b0 : decide (0 ≤ x5_1) = true := decide_eq_true c5
     clear c5
     obtain ⟨y180, hy180⟩ : ∃ y_ : List ByteArray, y_ = (x0_1.set (x5_1 : Int).toNat t179) := ⟨_, rfl⟩
     replace H : (laws_markStringS.l0 k1 y180 (wrap64 (x1_1 + 1)) (wrap64 (x5_1 + 1))) = some (r1, r2) := by first | (rw [hy180]; with_reducible exact H) | (have H2_ := (Option.bind_some _ _).symm.trans H; rw [hy180]; with_reducible exact H2_) | (have H2_ := (Option.bind_some _ _).symm.trans H; with_reducible exact H2_) | with_reducible exact H | (rw [hy180]; exact H) | exact H
     have Ny180 := am hy180
     clear hy180
     have H' := am H
     clear H
     obtain ⟨Ao7, co7, eo7⟩ := Kd.R_slice HO_0.out
     subst eo7
     go_wp2_with (first | ((with_reducible refine gate_callee (f := 102) rfl ?_); refine goesL_ (some 15) rfl rfl Tryd.func102 (by kernel_rfl) rfl #[.int .i64 x1_1] rfl ma ?_; (with_reducible refine (laws_markText.calls k1 x1_1 t179 _ A4.out).mono ?_); rintro e w8 ⟨rfl, hb⟩; refine ⟨_, rfl, ?_⟩; replace HO_0 := kr HO_0 hb; replace HK := am (Kept.below (S := (fun k_ => P0_ k_)) (by repeat (first | (with_reducible first | exact HK.out | apply Kept.alloc | apply Kept.drewN | apply Kept.drew) | exact HK.out)) hb); replace HB := am (below_step bl hb); (try clear hb); (try clear hb2); (try clear hk); (try clear hi); have p6 : 0 ≤ (x5_1 : Int) := od; have q6 : (x5_1 : Int) < ((x0_1.length : Int) : Int) := od; obtain ⟨go6, co6, eo6, gb6, gl6, cl6, HG6⟩ := Kd.R_form HO_0.out (by omega); (first | cases eo6 | (injection eo6 with ea_ en_ ec_; (first | subst ea_ | (injection ea_ with ea_; subst ea_)); subst ec_; clear en_)); have GB6 := am gb6; have GG6 := am HG6; clear gb6 gl6 HG6; have HMgo6 := am (show (P0_ go6 ∨ w.heap.size ≤ go6) from (HO_0.out.1 _ rfl)); obtain ⟨hx6_0, hf6_0⟩ := Kd.R_celln (⟨#[]⟩ : ByteArray) HO_0.out (x5_1 : Int) p6 q6; replace p6 := eq_true p6; replace q6 := eq_true q6; obtain ⟨hy9_, hz9_⟩ := Kd.R_celln (⟨#[]⟩ : ByteArray) HO_0.out (x5_1 : Int) (od) (od); have HP9 := Kd.R_putg HO_0.out (x5_1 : Int) t179) | ((with_reducible refine gate_store (t := 9) (p := 16) rfl ?_); refine store_event (t := 9) (p := 16) (v := ?vo_w10) (w1 := (w8.setCell ⟨go6, (x5_1 : Int).toNat, none⟩ (.string t179))) ?hg ?ho ?hn ?hr ?_; (case ho => rfl); (case hg => rfl); (case hn => rfl); (case hr => first | (go_simp; done) | (go_simp; rfl)); intro w10 hw; have hg : w8.grownBy w10 (some go6) := (by rw [hw]; exact HP9.2); have hp_ : Kd.R Kd.string 9 w10 w0.heap.size (fun k_ => (P0_ k_ ∨ w.heap.size ≤ k_)) (.slice (some ⟨go6, 0, none⟩) x0_1.length co7) y180 := (by rw [hw, Ny180.out]; exact HP9.1); clear HP9; have n0_ := am (hp_); have n1_ := am ((by rw [hw]; exact below_set (HB.out) GB6.out : Below w0.heap.size w0 w10)); have n2_ := am (Kept.of_grown (S := (fun k_ => P0_ k_)) hg (by repeat (first | (with_reducible first | exact HK.out | apply Kept.alloc | apply Kept.drewN | apply Kept.drew) | exact HK.out)) (fun k_ e_ => (HO_0.out.1 k_ e_))); clear HO_0; clear HB; clear HK; have HO_0 := n0_; have HB := n1_; have HK := n2_; clear n0_ n1_ n2_; clear hg hw hp_))
     go_roundg k1
     case measure => have := HK1.out; omega
     case rel => exact ⟨(y180), (wrap64 (x1_1 + 1)), (wrap64 (x5_1 + 1)), rs, rs, H', ⟨by have := HK1.out; omega⟩, ⟨by (with_reducible repeat (first | apply Kd.R_alloc | apply Kd.R_drewN | apply Kd.R_drew)); exact HO_0.out⟩, ⟨by repeat (first | (with_reducible first | exact HK.out | apply Kept.alloc | apply Kept.drewN | apply Kept.drew) | exact HK.out)⟩, ⟨by repeat (first | (with_reducible first | exact HB.out | apply below_alloc | apply pw_below_drewN | apply below_drew1) | exact HB.out)⟩⟩
    ·rw [if_neg c5] at H
     exact absurd H (by simp)
   ·rw [if_neg c3] at H
    have c3b0 : decide (x5_1 < (x0_1.length : Int)) = false := decide_eq_false c3
    clear c3
    simp only [Option.some.injEq, Prod.mk.injEq] at H
    obtain ⟨rfl, rfl⟩ := H
    obtain ⟨Ao11, co11, eo11⟩ := Kd.R_slice HO_0.out
    subst eo11
    go_wp2
    go_ret
    exact ⟨rf, by (with_reducible repeat (first | apply Kd.R_alloc | apply Kd.R_drewN | apply Kd.R_drew)); exact HO_0.out, by repeat (first | (with_reducible first | exact HB.out | apply below_alloc | apply pw_below_drewN | apply below_drew1) | exact HB.out), by repeat (first | (with_reducible first | exact HK.out | apply Kept.alloc | apply Kept.drewN | apply Kept.drew) | exact HK.out)⟩

/-! ### laws_heldStringS: function 25 -/
def laws_heldStringS.l0 : Nat → List ByteArray → Int → Int → Option (Int)
 | 0, _, _, _ => none
 | k + 1, x0, x1, x5 => if x5 < (x0.length : Int) then (if 0 ≤ x5 then ((laws_markText.f k x1).bind fun t182 => (if (rdOf ByteArray.empty x0 x5).toList = t182.toList then (laws_heldStringS.l0 k x0 (wrap64 (x1 + 1)) (wrap64 (x5 + 1))) else (some (-1)))) else (none)) else (some x1)
def laws_heldStringS.f (k : Nat) (l0 : List ByteArray) (a1 : Int) : Option (Int) := laws_heldStringS.l0 k l0 a1 0
theorem laws_heldStringS.mono_l : ∀ k, (∀ y0 y1 y2, LeO (laws_heldStringS.l0 k y0 y1 y2) (laws_heldStringS.l0 (k + 1) y0 y1 y2))
 | 0 => fun _ _ _ r h => by simp [laws_heldStringS.l0] at h
 | k + 1 => by
  have ih0 := laws_heldStringS.mono_l k
  ·intro y0 y1 y2
   unfold laws_heldStringS.l0
   repeat' first
   | (with_reducible exact ih0 _ _ _)
   | (with_reducible exact laws_markText.mono _ _)
   | (with_reducible exact LeO.refl _)
   | (with_reducible exact LeO.none _)
   | (with_reducible refine LeO.ite ?_ ?_)
   | (with_reducible refine LeO.bind ?_ (fun _ => ?_))
   | exact ih0 _ _ _
   | exact laws_markText.mono _ _
   | exact LeO.none _
   | refine LeO.ite ?_ ?_
   | refine LeO.bind ?_ (fun _ => ?_)
theorem laws_heldStringS.mono : ∀ a0 a1 k, LeO (laws_heldStringS.f k a0 a1) (laws_heldStringS.f (k + 1) a0 a1) := by
 intro a0 a1 k
 have ih0 := laws_heldStringS.mono_l k
 unfold laws_heldStringS.f
 repeat' first
   | (with_reducible exact ih0 _ _ _)
   | (with_reducible exact laws_markText.mono _ _)
   | (with_reducible exact LeO.refl _)
   | (with_reducible exact LeO.none _)
   | (with_reducible refine LeO.ite ?_ ?_)
   | (with_reducible refine LeO.bind ?_ (fun _ => ?_))
   | exact ih0 _ _ _
   | exact laws_markText.mono _ _
   | exact LeO.none _
   | refine LeO.ite ?_ ?_
   | refine LeO.bind ?_ (fun _ => ?_)
set_option maxHeartbeats 8000000 in
set_option maxRecDepth 100000 in
theorem laws_heldStringS.calls (k : Nat) (A0 : Option Addr) (c0 : Nat) (l0 : List ByteArray) (a1 : Int) (r : Int) (w : World) (hr0 : Kd.C Kd.string w A0 l0.length l0) (hc0 : l0.length ≤ c0) (h : laws_heldStringS.f k l0 a1 = some r) :
  Calls Tryd.prog 25 #[.slice A0 l0.length c0, .int .i64 a1] w fun e w' => e = .returned (.int .i64 r) ∧ Below w.heap.size w w' := by
 have HR0 := am hr0
 have HC0 := am hc0
 clear hr0 hc0
 have HB := am (Below.refl w.heap.size w)
 have H : (laws_heldStringS.l0 k l0 a1 0) = some r := h
 clear h
 have H' := am H
 clear H
 go_enter Tryd.func25, Tryd.ntmps25
 go_wp2
 (try simp only [Act.put, List.setIfInBounds_toArray, List.set_cons_zero, List.set_cons_succ])
 go_loopg [1, 5] k (fun kq v1 v5 w' => ∃ (x1_1 : Int) (x5_1 : Int), v1 = .int .i64 x1_1 ∧ v5 = .int .i64 x5_1 ∧ Aside0 (laws_heldStringS.l0 kq l0 x1_1 x5_1 = some r) ∧ Aside0 (kq ≤ k) ∧ Aside0 (Below w.heap.size w w'))
 case atStart => exact ⟨(a1), (0), rs, rs, H', ⟨Nat.le_refl _⟩, ⟨by repeat (first | (with_reducible first | exact HB.out | apply below_alloc | apply pw_below_drewN | apply below_drew1) | exact HB.out)⟩⟩
 case round =>
  clear H'
  try clear c2
  try clear p2
  obtain ⟨x1_1, x5_1, rfl, rfl, HA, HK1, HB⟩ := hrel
  cases gk with
  | zero => exact absurd HA.out (by simp [laws_heldStringS.l0])
  | succ k1 =>
   have H := HA.out
   clear HA
   simp only [laws_heldStringS.l0] at H
   by_cases c3 : x5_1 < (l0.length : Int)
   ·rw [if_pos c3] at H
    have c3b0 : decide (x5_1 < (l0.length : Int)) = true := decide_eq_true c3
    clear c3
    by_cases c4 : 0 ≤ x5_1
    ·rw [if_pos c4] at H
     have c4b0 : decide (0 ≤ x5_1) = true := decide_eq_true c4
     clear c4
     replace H := ob H
     obtain ⟨t182, A50, H⟩ := H
     replace H : (if (rdOf ByteArray.empty l0 x5_1).toList = t182.toList then (laws_heldStringS.l0 k1 l0 (wrap64 (x1_1 + 1)) (wrap64 (x5_1 + 1))) else (some (-1))) = some r := H
     have A5 := am A50
     clear A50
     by_cases c6 : (rdOf ByteArray.empty l0 x5_1).toList = t182.toList
     ·rw [if_pos c6] at H
      have c6b0 : ((rdOf ByteArray.empty l0 x5_1).toList == t182.toList) = true := beq_iff_eq.mpr c6
      have c6b1 : ((rdOf ByteArray.empty l0 x5_1).toList != t182.toList) = false := bne_eq_false_iff_eq.mpr c6
      clear c6
      have H' := am H
      clear H
      try go_wp2
      replace HB := am (below_drew1 HB.out)
      have p181 : 0 ≤ (x5_1 : Int) := od
      have q181 : x5_1 < (l0.length : Int) := od
      obtain ⟨ad181, e181, hx181_0⟩ := Kd.at_string HR0.out x5_1 p181 q181
      have hw181_0 := hx181_0
      cases e181
      replace hx181_0 := hcw hx181_0
      replace p181 := eq_true p181
      replace q181 := eq_true q181
      refine start_ (n := 7) (S := fun w' => w'.cell? (ad181.add (x5_1).toNat) = some (.string (rdOf ByteArray.empty l0 x5_1))) (ds := []) #[false, false, false, false, false, false, false] (by kernel_rfl) rfl rfl ((hcw hw181_0)) (fun hHeld => ?_)
      generalize wr.drew = w7 at HB hx181_0 hHeld ⊢
      refine pure_ (i := 0) (N := some 12) (v := ?_) (a' := ?_) #[true, false, false, false, false, false, false] rfl rfl (by kernel_rfl) (fun _ _ _ h => h) (Or.inl ⟨by rfl, ?_⟩) ?_ ?_
      rotate_left
      ·intro w'
       go_simp
       with_reducible rfl
      rotate_left
      ·simp only [Act.put, List.setIfInBounds_toArray, List.set_cons_zero, List.set_cons_succ, i64_w, i32_w]
       rfl
      refine pure_ (i := 1) (N := some 13) (v := ?_) (a' := ?_) #[true, true, false, false, false, false, false] rfl rfl (by kernel_rfl) (fun _ _ _ h => h) (Or.inl ⟨by rfl, ?_⟩) ?_ ?_
      rotate_left
      ·intro w'
       go_simp
       with_reducible rfl
      rotate_left
      ·simp only [Act.put, List.setIfInBounds_toArray, List.set_cons_zero, List.set_cons_succ, i64_w, i32_w]
       rfl
      refine pure_ (i := 2) (N := some 14) (v := ?_) (a' := ?_) #[true, true, true, false, false, false, false] rfl rfl (by kernel_rfl) (fun _ _ _ h => h) (Or.inl ⟨by rfl, ?_⟩) ?_ ?_
      rotate_left
      ·intro w'
       go_simp
       with_reducible rfl
      rotate_left
      ·simp only [Act.put, List.setIfInBounds_toArray, List.set_cons_zero, List.set_cons_succ, i64_w, i32_w]
       rfl
      refine pure_ (i := 4) (N := some 16) (v := ?_) (a' := ?_) #[true, true, true, false, true, false, false] rfl rfl (by kernel_rfl) (fun _ _ _ h => h) (Or.inl ⟨by rfl, ?_⟩) ?_ ?_
      rotate_left
      ·intro w'
       go_simp
       with_reducible rfl
      rotate_left
      ·simp only [Act.put, List.setIfInBounds_toArray, List.set_cons_zero, List.set_cons_succ, i64_w, i32_w]
       rfl
      refine take_ (i := 3) (N := some 15) (v := ?_) (a' := ?_) #[true, true, true, true, true, false, false] rfl rfl (by kernel_rfl) (fun _ _ _ h => h) (Or.inl ⟨by rfl, ?_⟩) hHeld ?_ ?_
      rotate_left
      ·intro w' s0
       go_simp
       with_reducible rfl
      rotate_left
      ·simp only [Act.put, List.setIfInBounds_toArray, List.set_cons_zero, List.set_cons_succ, i64_w, i32_w]
       rfl
      refine one_ (i := 5) (N := some 17) #[true, true, true, true, true, true, false] rfl rfl (by kernel_rfl) (by decide) (fun K hK => ?_)
      refine goes_ Tryd.func102 (by kernel_rfl) rfl #[.int .i64 x1_1] (by rfl) rfl rfl ma ?_
      with_reducible refine (laws_markText.calls k1 x1_1 t182 _ A5.out).mono ?_
      rintro e w8 ⟨rfl, hb⟩
      refine ⟨_, rfl, ?_⟩
      replace HB := am (below_step bl hb)
      (try clear hb)
      (try clear hb2)
      (try clear hk)
      (try clear hi)
      refine hK.out _ _ ((hcw hw181_0)) (fun hHeld => ?_)
      clear hK K
      refine norm_ (a' := ?_) ?_ ?_
      rotate_left
      ·show Act.put _ (some 17) _ = _
       simp only [Act.put, List.setIfInBounds_toArray, List.set_cons_zero, List.set_cons_succ, i64_w, i32_w]
       rfl
      refine pure_ (i := 6) (N := some 18) (v := ?_) (a' := ?_) #[true, true, true, true, true, true, true] rfl rfl (by kernel_rfl) (fun _ _ _ h => h) (Or.inl ⟨by rfl, ?_⟩) ?_ ?_
      rotate_left
      ·intro w'
       go_simp
       with_reducible rfl
      rotate_left
      ·simp only [Act.put, List.setIfInBounds_toArray, List.set_cons_zero, List.set_cons_succ, i64_w, i32_w]
       rfl
      refine done_ (by kernel_rfl) ?_
      try go_wp2
      go_roundg k1
      case measure => have := HK1.out; omega
      case rel => exact ⟨(wrap64 (x1_1 + 1)), (wrap64 (x5_1 + 1)), rs, rs, H', ⟨by have := HK1.out; omega⟩, ⟨by repeat (first | (with_reducible first | exact HB.out | apply below_alloc | apply pw_below_drewN | apply below_drew1) | exact HB.out)⟩⟩
     ·rw [if_neg c6] at H
      have c6b0 : ((rdOf ByteArray.empty l0 x5_1).toList == t182.toList) = false := beq_eq_false_iff_ne.mpr c6
      have c6b1 : ((rdOf ByteArray.empty l0 x5_1).toList != t182.toList) = true := bne_iff_ne.mpr c6
      obtain rfl := Option.some.inj H
      try go_wp2
      replace HB := am (below_drew1 HB.out)
      have p181 : 0 ≤ (x5_1 : Int) := od
      have q181 : x5_1 < (l0.length : Int) := od
      obtain ⟨ad181, e181, hx181_0⟩ := Kd.at_string HR0.out x5_1 p181 q181
      have hw181_0 := hx181_0
      cases e181
      replace hx181_0 := hcw hx181_0
      replace p181 := eq_true p181
      replace q181 := eq_true q181
      refine start_ (n := 7) (S := fun w' => w'.cell? (ad181.add (x5_1).toNat) = some (.string (rdOf ByteArray.empty l0 x5_1))) (ds := []) #[false, false, false, false, false, false, false] (by kernel_rfl) rfl rfl ((hcw hw181_0)) (fun hHeld => ?_)
      generalize wr.drew = w9 at HB hx181_0 hHeld ⊢
      refine pure_ (i := 0) (N := some 12) (v := ?_) (a' := ?_) #[true, false, false, false, false, false, false] rfl rfl (by kernel_rfl) (fun _ _ _ h => h) (Or.inl ⟨by rfl, ?_⟩) ?_ ?_
      rotate_left
      ·intro w'
       go_simp
       with_reducible rfl
      rotate_left
      ·simp only [Act.put, List.setIfInBounds_toArray, List.set_cons_zero, List.set_cons_succ, i64_w, i32_w]
       rfl
      refine pure_ (i := 1) (N := some 13) (v := ?_) (a' := ?_) #[true, true, false, false, false, false, false] rfl rfl (by kernel_rfl) (fun _ _ _ h => h) (Or.inl ⟨by rfl, ?_⟩) ?_ ?_
      rotate_left
      ·intro w'
       go_simp
       with_reducible rfl
      rotate_left
      ·simp only [Act.put, List.setIfInBounds_toArray, List.set_cons_zero, List.set_cons_succ, i64_w, i32_w]
       rfl
      refine pure_ (i := 2) (N := some 14) (v := ?_) (a' := ?_) #[true, true, true, false, false, false, false] rfl rfl (by kernel_rfl) (fun _ _ _ h => h) (Or.inl ⟨by rfl, ?_⟩) ?_ ?_
      rotate_left
      ·intro w'
       go_simp
       with_reducible rfl
      rotate_left
      ·simp only [Act.put, List.setIfInBounds_toArray, List.set_cons_zero, List.set_cons_succ, i64_w, i32_w]
       rfl
      refine pure_ (i := 4) (N := some 16) (v := ?_) (a' := ?_) #[true, true, true, false, true, false, false] rfl rfl (by kernel_rfl) (fun _ _ _ h => h) (Or.inl ⟨by rfl, ?_⟩) ?_ ?_
      rotate_left
      ·intro w'
       go_simp
       with_reducible rfl
      rotate_left
      ·simp only [Act.put, List.setIfInBounds_toArray, List.set_cons_zero, List.set_cons_succ, i64_w, i32_w]
       rfl
      refine take_ (i := 3) (N := some 15) (v := ?_) (a' := ?_) #[true, true, true, true, true, false, false] rfl rfl (by kernel_rfl) (fun _ _ _ h => h) (Or.inl ⟨by rfl, ?_⟩) hHeld ?_ ?_
      rotate_left
      ·intro w' s0
       go_simp
       with_reducible rfl
      rotate_left
      ·simp only [Act.put, List.setIfInBounds_toArray, List.set_cons_zero, List.set_cons_succ, i64_w, i32_w]
       rfl
      refine one_ (i := 5) (N := some 17) #[true, true, true, true, true, true, false] rfl rfl (by kernel_rfl) (by decide) (fun K hK => ?_)
      refine goes_ Tryd.func102 (by kernel_rfl) rfl #[.int .i64 x1_1] (by rfl) rfl rfl ma ?_
      with_reducible refine (laws_markText.calls k1 x1_1 t182 _ A5.out).mono ?_
      rintro e w10 ⟨rfl, hb⟩
      refine ⟨_, rfl, ?_⟩
      replace HB := am (below_step bl hb)
      (try clear hb)
      (try clear hb2)
      (try clear hk)
      (try clear hi)
      refine hK.out _ _ ((hcw hw181_0)) (fun hHeld => ?_)
      clear hK K
      refine norm_ (a' := ?_) ?_ ?_
      rotate_left
      ·show Act.put _ (some 17) _ = _
       simp only [Act.put, List.setIfInBounds_toArray, List.set_cons_zero, List.set_cons_succ, i64_w, i32_w]
       rfl
      refine pure_ (i := 6) (N := some 18) (v := ?_) (a' := ?_) #[true, true, true, true, true, true, true] rfl rfl (by kernel_rfl) (fun _ _ _ h => h) (Or.inl ⟨by rfl, ?_⟩) ?_ ?_
      rotate_left
      ·intro w'
       go_simp
       with_reducible rfl
      rotate_left
      ·simp only [Act.put, List.setIfInBounds_toArray, List.set_cons_zero, List.set_cons_succ, i64_w, i32_w]
       rfl
      refine done_ (by kernel_rfl) ?_
      try go_wp2
      go_ret
      exact ⟨rf, bl⟩
    ·rw [if_neg c4] at H
     exact absurd H (by simp)
   ·rw [if_neg c3] at H
    have c3b0 : decide (x5_1 < (l0.length : Int)) = false := decide_eq_false c3
    clear c3
    obtain rfl := Option.some.inj H
    go_wp2
    go_ret
    exact ⟨rf, bl⟩

/-! ### laws_FnExactVaryOf: function 3 -/
def laws_FnExactVaryOf.j0 : Nat → List (S113) → List ByteArray → List ByteArray → Bool → Option (Bool)
 | 0, _, _, _, _ => none
 | k + 1, x0, x4, x6, x42 => if x42 = true then (some false) else ((laws_markStringS.f k x6 1).bind fun bt204 => ((laws_heldStringS.f k bt204.2 1).bind fun t206 => (if t206 < 0 then (some false) else (if t206 = bt204.1 then ((laws_toFieldS.f k x0).bind fun t207 => ((impl_VaryOf.f k t207).bind fun t210 => ((laws_eqStringS.f k t210 x4).bind fun t213 => (if t213 = true then ((laws_heldStringS.f k bt204.2 1).bind fun t214 => (if t214 < 0 then (some false) else (if t214 = bt204.1 then (some true) else (some false)))) else (some false))))) else (some false)))))
def laws_FnExactVaryOf.f (k : Nat) (l0 : List (S113)) : Option (Bool) := (laws_szFieldS.f k l0 1048576).bind fun t183 => (if t183 < 0 then (some true) else ((laws_toFieldS.f k l0).bind fun t184 => ((spec_VaryOf.f k t184).bind fun t187 => ((laws_toFieldS.f k l0).bind fun t190 => ((impl_VaryOf.f k t190).bind fun t193 => ((laws_eqStringS.f k t193 t187).bind fun t196 => (if t196 = true then ((laws_toFieldS.f k l0).bind fun t197 => ((laws_eqFieldS.f k t190 t197).bind fun t200 => (if t200 = true then ((laws_markFieldS.f k t190 1).bind fun bt201 => (if bt201.1 < 0 then (laws_FnExactVaryOf.j0 k l0 t187 t193 true) else ((laws_eqStringS.f k t193 t187).bind fun t203 => (laws_FnExactVaryOf.j0 k l0 t187 t193 (!t203))))) else (some false)))) else (some false))))))))
theorem laws_FnExactVaryOf.mono_l : ∀ k, (∀ y0 y1 y2 y3, LeO (laws_FnExactVaryOf.j0 k y0 y1 y2 y3) (laws_FnExactVaryOf.j0 (k + 1) y0 y1 y2 y3))
 | 0 => fun _ _ _ _ r h => by simp [laws_FnExactVaryOf.j0] at h
 | k + 1 => by
  have ih0 := laws_FnExactVaryOf.mono_l k
  ·intro y0 y1 y2 y3
   unfold laws_FnExactVaryOf.j0
   repeat' first
   | (with_reducible exact ih0 _ _ _ _)
   | (with_reducible exact impl_VaryOf.mono _ _)
   | (with_reducible exact laws_eqFieldS.mono _ _ _)
   | (with_reducible exact laws_eqStringS.mono _ _ _)
   | (with_reducible exact laws_heldStringS.mono _ _ _)
   | (with_reducible exact laws_markFieldS.mono _ _ _)
   | (with_reducible exact laws_markStringS.mono _ _ _)
   | (with_reducible exact laws_szFieldS.mono _ _ _)
   | (with_reducible exact laws_toFieldS.mono _ _)
   | (with_reducible exact spec_VaryOf.mono _ _)
   | (with_reducible exact LeO.refl _)
   | (with_reducible exact LeO.none _)
   | (with_reducible refine LeO.ite ?_ ?_)
   | (with_reducible refine LeO.bind ?_ (fun _ => ?_))
   | exact ih0 _ _ _ _
   | exact impl_VaryOf.mono _ _
   | exact laws_eqFieldS.mono _ _ _
   | exact laws_eqStringS.mono _ _ _
   | exact laws_heldStringS.mono _ _ _
   | exact laws_markFieldS.mono _ _ _
   | exact laws_markStringS.mono _ _ _
   | exact laws_szFieldS.mono _ _ _
   | exact laws_toFieldS.mono _ _
   | exact spec_VaryOf.mono _ _
   | exact LeO.none _
   | refine LeO.ite ?_ ?_
   | refine LeO.bind ?_ (fun _ => ?_)
theorem laws_FnExactVaryOf.mono : ∀ a0 k, LeO (laws_FnExactVaryOf.f k a0) (laws_FnExactVaryOf.f (k + 1) a0) := by
 intro a0 k
 have ih0 := laws_FnExactVaryOf.mono_l k
 unfold laws_FnExactVaryOf.f
 repeat' first
   | (with_reducible exact ih0 _ _ _ _)
   | (with_reducible exact impl_VaryOf.mono _ _)
   | (with_reducible exact laws_eqFieldS.mono _ _ _)
   | (with_reducible exact laws_eqStringS.mono _ _ _)
   | (with_reducible exact laws_heldStringS.mono _ _ _)
   | (with_reducible exact laws_markFieldS.mono _ _ _)
   | (with_reducible exact laws_markStringS.mono _ _ _)
   | (with_reducible exact laws_szFieldS.mono _ _ _)
   | (with_reducible exact laws_toFieldS.mono _ _)
   | (with_reducible exact spec_VaryOf.mono _ _)
   | (with_reducible exact LeO.refl _)
   | (with_reducible exact LeO.none _)
   | (with_reducible refine LeO.ite ?_ ?_)
   | (with_reducible refine LeO.bind ?_ (fun _ => ?_))
   | exact ih0 _ _ _ _
   | exact impl_VaryOf.mono _ _
   | exact laws_eqFieldS.mono _ _ _
   | exact laws_eqStringS.mono _ _ _
   | exact laws_heldStringS.mono _ _ _
   | exact laws_markFieldS.mono _ _ _
   | exact laws_markStringS.mono _ _ _
   | exact laws_szFieldS.mono _ _ _
   | exact laws_toFieldS.mono _ _
   | exact spec_VaryOf.mono _ _
   | exact LeO.none _
   | refine LeO.ite ?_ ?_
   | refine LeO.bind ?_ (fun _ => ?_)
set_option maxHeartbeats 8000000 in
set_option maxRecDepth 100000 in
theorem laws_FnExactVaryOf.calls (k : Nat) (A0 : Option Addr) (c0 : Nat) (l0 : List (S113)) (r : Bool) (w : World) (hGM : GLOBM w) (hr0 : Kd.C k113 w A0 l0.length l0) (hc0 : l0.length ≤ c0) (ht_ : r = true) (h : laws_FnExactVaryOf.f k l0 = some r) :
  Calls Tryd.prog 3 #[.slice A0 l0.length c0] w fun e w' => e = .returned (.bool r) ∧ Below w.heap.size w w' := by
 have HR0 := am hr0
 have HC0 := am hc0
 clear hr0 hc0
 have HGM := am hGM
 clear hGM
 have HB := am (Below.refl w.heap.size w)
 have H : ((laws_szFieldS.f k l0 1048576).bind fun t183 => (if t183 < 0 then (some true) else ((laws_toFieldS.f k l0).bind fun t184 => ((spec_VaryOf.f k t184).bind fun t187 => ((laws_toFieldS.f k l0).bind fun t190 => ((impl_VaryOf.f k t190).bind fun t193 => ((laws_eqStringS.f k t193 t187).bind fun t196 => (if t196 = true then ((laws_toFieldS.f k l0).bind fun t197 => ((laws_eqFieldS.f k t190 t197).bind fun t200 => (if t200 = true then ((laws_markFieldS.f k t190 1).bind fun bt201 => (if bt201.1 < 0 then (laws_FnExactVaryOf.j0 k l0 t187 t193 true) else ((laws_eqStringS.f k t193 t187).bind fun t203 => (laws_FnExactVaryOf.j0 k l0 t187 t193 (!t203))))) else (some false)))) else (some false))))))))) = some r := h
 clear h
 replace H := ob H
 obtain ⟨t183, A20, H⟩ := H
 replace H : (if t183 < 0 then (some true) else ((laws_toFieldS.f k l0).bind fun t184 => ((spec_VaryOf.f k t184).bind fun t187 => ((laws_toFieldS.f k l0).bind fun t190 => ((impl_VaryOf.f k t190).bind fun t193 => ((laws_eqStringS.f k t193 t187).bind fun t196 => (if t196 = true then ((laws_toFieldS.f k l0).bind fun t197 => ((laws_eqFieldS.f k t190 t197).bind fun t200 => (if t200 = true then ((laws_markFieldS.f k t190 1).bind fun bt201 => (if bt201.1 < 0 then (laws_FnExactVaryOf.j0 k l0 t187 t193 true) else ((laws_eqStringS.f k t193 t187).bind fun t203 => (laws_FnExactVaryOf.j0 k l0 t187 t193 (!t203))))) else (some false)))) else (some false)))))))) = some r := H
 have A2 := am A20
 clear A20
 by_cases c3 : t183 < 0
 ·rw [if_pos c3] at H
  have c3b0 : decide (t183 < 0) = true := decide_eq_true c3
  clear c3
  obtain rfl := Option.some.inj H
  go_enter Tryd.func3, Tryd.ntmps3
  go_wp2_with (first | ((with_reducible refine gate_callee (f := 17) rfl ?_); refine goesL_ (some 13) rfl rfl Tryd.func17 (by kernel_rfl) rfl #[.slice A0 l0.length c0, .int .i64 1048576] rfl ma ?_; (with_reducible refine (laws_szFieldS.calls k _ _ l0 1048576 t183 _ ?side1 ?side2 A2.out).mono ?_); (case side1 => exact cc HR0); (case side2 => exact HC0.out); rintro e w4 ⟨rfl, hb⟩; refine ⟨_, rfl, ?_⟩; replace HB := am (below_step bl hb); (try clear hb); (try clear hb2); (try clear hk); (try clear hi)))
  go_ret
  exact ⟨rf, bl⟩
 ·rw [if_neg c3] at H
  have c3b0 : decide (t183 < 0) = false := decide_eq_false c3
  clear c3
  replace H := ob H
  obtain ⟨t184, A50, H⟩ := H
  replace H : ((spec_VaryOf.f k t184).bind fun t187 => ((laws_toFieldS.f k l0).bind fun t190 => ((impl_VaryOf.f k t190).bind fun t193 => ((laws_eqStringS.f k t193 t187).bind fun t196 => (if t196 = true then ((laws_toFieldS.f k l0).bind fun t197 => ((laws_eqFieldS.f k t190 t197).bind fun t200 => (if t200 = true then ((laws_markFieldS.f k t190 1).bind fun bt201 => (if bt201.1 < 0 then (laws_FnExactVaryOf.j0 k l0 t187 t193 true) else ((laws_eqStringS.f k t193 t187).bind fun t203 => (laws_FnExactVaryOf.j0 k l0 t187 t193 (!t203))))) else (some false)))) else (some false)))))) = some r := H
  have A5 := am A50
  clear A50
  replace H := ob H
  obtain ⟨t187, A60, H⟩ := H
  replace H : ((laws_toFieldS.f k l0).bind fun t190 => ((impl_VaryOf.f k t190).bind fun t193 => ((laws_eqStringS.f k t193 t187).bind fun t196 => (if t196 = true then ((laws_toFieldS.f k l0).bind fun t197 => ((laws_eqFieldS.f k t190 t197).bind fun t200 => (if t200 = true then ((laws_markFieldS.f k t190 1).bind fun bt201 => (if bt201.1 < 0 then (laws_FnExactVaryOf.j0 k l0 t187 t193 true) else ((laws_eqStringS.f k t193 t187).bind fun t203 => (laws_FnExactVaryOf.j0 k l0 t187 t193 (!t203))))) else (some false)))) else (some false))))) = some r := H
  have A6 := am A60
  clear A60
  replace H := ob H
  obtain ⟨t190, A70, H⟩ := H
  replace H : ((impl_VaryOf.f k t190).bind fun t193 => ((laws_eqStringS.f k t193 t187).bind fun t196 => (if t196 = true then ((laws_toFieldS.f k l0).bind fun t197 => ((laws_eqFieldS.f k t190 t197).bind fun t200 => (if t200 = true then ((laws_markFieldS.f k t190 1).bind fun bt201 => (if bt201.1 < 0 then (laws_FnExactVaryOf.j0 k l0 t187 t193 true) else ((laws_eqStringS.f k t193 t187).bind fun t203 => (laws_FnExactVaryOf.j0 k l0 t187 t193 (!t203))))) else (some false)))) else (some false)))) = some r := H
  have A7 := am A70
  clear A70
  replace H := ob H
  obtain ⟨t193, A80, H⟩ := H
  replace H : ((laws_eqStringS.f k t193 t187).bind fun t196 => (if t196 = true then ((laws_toFieldS.f k l0).bind fun t197 => ((laws_eqFieldS.f k t190 t197).bind fun t200 => (if t200 = true then ((laws_markFieldS.f k t190 1).bind fun bt201 => (if bt201.1 < 0 then (laws_FnExactVaryOf.j0 k l0 t187 t193 true) else ((laws_eqStringS.f k t193 t187).bind fun t203 => (laws_FnExactVaryOf.j0 k l0 t187 t193 (!t203))))) else (some false)))) else (some false))) = some r := H
  have A8 := am A80
  clear A80
  replace H := ob H
  obtain ⟨t196, A90, H⟩ := H
  replace H : (if t196 = true then ((laws_toFieldS.f k l0).bind fun t197 => ((laws_eqFieldS.f k t190 t197).bind fun t200 => (if t200 = true then ((laws_markFieldS.f k t190 1).bind fun bt201 => (if bt201.1 < 0 then (laws_FnExactVaryOf.j0 k l0 t187 t193 true) else ((laws_eqStringS.f k t193 t187).bind fun t203 => (laws_FnExactVaryOf.j0 k l0 t187 t193 (!t203))))) else (some false)))) else (some false)) = some r := H
  have A9 := am A90
  clear A90
  by_cases c10 : t196 = true
  ·subst c10
   have H1 : ((laws_toFieldS.f k l0).bind fun t197 => ((laws_eqFieldS.f k t190 t197).bind fun t200 => (if t200 = true then ((laws_markFieldS.f k t190 1).bind fun bt201 => (if bt201.1 < 0 then (laws_FnExactVaryOf.j0 k l0 t187 t193 true) else ((laws_eqStringS.f k t193 t187).bind fun t203 => (laws_FnExactVaryOf.j0 k l0 t187 t193 (!t203))))) else (some false)))) = some r := by rw [if_pos rfl] at H; exact H
   clear H
   have H := H1
   clear H1
   replace H := ob H
   obtain ⟨t197, A110, H⟩ := H
   replace H : ((laws_eqFieldS.f k t190 t197).bind fun t200 => (if t200 = true then ((laws_markFieldS.f k t190 1).bind fun bt201 => (if bt201.1 < 0 then (laws_FnExactVaryOf.j0 k l0 t187 t193 true) else ((laws_eqStringS.f k t193 t187).bind fun t203 => (laws_FnExactVaryOf.j0 k l0 t187 t193 (!t203))))) else (some false))) = some r := H
   have A11 := am A110
   clear A110
   replace H := ob H
   obtain ⟨t200, A120, H⟩ := H
   replace H : (if t200 = true then ((laws_markFieldS.f k t190 1).bind fun bt201 => (if bt201.1 < 0 then (laws_FnExactVaryOf.j0 k l0 t187 t193 true) else ((laws_eqStringS.f k t193 t187).bind fun t203 => (laws_FnExactVaryOf.j0 k l0 t187 t193 (!t203))))) else (some false)) = some r := H
   have A12 := am A120
   clear A120
   by_cases c13 : t200 = true
   ·subst c13
    have H1 : ((laws_markFieldS.f k t190 1).bind fun bt201 => (if bt201.1 < 0 then (laws_FnExactVaryOf.j0 k l0 t187 t193 true) else ((laws_eqStringS.f k t193 t187).bind fun t203 => (laws_FnExactVaryOf.j0 k l0 t187 t193 (!t203))))) = some r := by rw [if_pos rfl] at H; exact H
    clear H
    have H := H1
    clear H1
    replace H := ob H
    obtain ⟨⟨t201, t202⟩, A140, H⟩ := H
    replace H : (if t201 < 0 then (laws_FnExactVaryOf.j0 k l0 t187 t193 true) else ((laws_eqStringS.f k t193 t187).bind fun t203 => (laws_FnExactVaryOf.j0 k l0 t187 t193 (!t203)))) = some r := H
    have A14 := am A140
    clear A140
    have HC15 := am H
    clear H
    go_enter Tryd.func3, Tryd.ntmps3
    go_upto_region 14 with (first | ((with_reducible refine gate_callee (f := 17) rfl ?_); refine goesL_ (some 13) rfl rfl Tryd.func17 (by kernel_rfl) rfl #[.slice A0 l0.length c0, .int .i64 1048576] rfl ma ?_; (with_reducible refine (laws_szFieldS.calls k _ _ l0 1048576 t183 _ ?side1 ?side2 A2.out).mono ?_); (case side1 => exact cc HR0); (case side2 => exact HC0.out); rintro e w16 ⟨rfl, hb⟩; refine ⟨_, rfl, ?_⟩; replace HB := am (below_step bl hb); (try clear hb); (try clear hb2); (try clear hk); (try clear hi)) | ((with_reducible refine gate_callee (f := 19) rfl ?_); refine goesL_ (some 17) rfl rfl Tryd.func19 (by kernel_rfl) rfl #[.slice A0 l0.length c0] rfl ma ?_; (with_reducible refine (laws_toFieldS.calls k _ _ l0 t184 _ ?side1 ?side2 A5.out).mono ?_); (case side1 => exact cb HR0); (case side2 => exact HC0.out); rintro e w17 ⟨v185, rfl, ho0, hb⟩; refine ⟨_, rfl, ?_⟩; have HO186 := am (Kd.R_lower ho0 (below_size bl)); replace HB := am (below_step bl hb); (try clear hb); (try clear hb2); (try clear hk); (try clear hi); (try clear ho0); obtain ⟨Ao18, co18, eo18⟩ := Kd.R_slice HO186.out; subst eo18) | ((with_reducible refine gate_callee (f := 18) rfl ?_); refine goesL_ (some 18) rfl rfl Tryd.func18 (by kernel_rfl) rfl #[.slice Ao18 t184.length co18] rfl ma ?_; (with_reducible refine (spec_VaryOf.calls k _ _ t184 t187 _ ?side1 ?side2 A6.out).mono ?_); (case side1 => exact rc HO186); (case side2 => exact (Kd.R_reads' HO186.out).2.1); rintro e w19 ⟨v188, rfl, ho0, hb⟩; refine ⟨_, rfl, ?_⟩; replace HO186 := kr HO186 hb; have HO189 := am (Kd.R_lower ho0 (below_size bl)); replace HB := am (below_step bl hb); (try clear hb); (try clear hb2); (try clear hk); (try clear hi); (try clear ho0)) | ((with_reducible refine gate_callee (f := 19) rfl ?_); refine goesL_ (some 20) rfl rfl Tryd.func19 (by kernel_rfl) rfl #[.slice A0 l0.length c0] rfl ma ?_; (with_reducible refine (laws_toFieldS.calls k _ _ l0 t190 _ ?side1 ?side2 A7.out).mono ?_); (case side1 => exact cb HR0); (case side2 => exact HC0.out); rintro e w20 ⟨v191, rfl, ho0, hb⟩; refine ⟨_, rfl, ?_⟩; replace HO189 := kr HO189 hb; have HO192 := am (Kd.R_lower (Kd.R_new' ho0 (Kd.R_lt (ro HO186))) (below_size bl)); replace HO186 := am (Kd.R_elder' (ro HO186) (Kd.R_base ho0) hb); replace HB := am (below_step bl hb); (try clear hb); (try clear hb2); (try clear hk); (try clear hi); (try clear ho0); obtain ⟨Ao21, co21, eo21⟩ := Kd.R_slice HO192.out; subst eo21) | ((with_reducible refine gate_callee (f := 20) rfl ?_); refine goesL_ (some 22) rfl rfl Tryd.func20 (by kernel_rfl) rfl #[.slice Ao21 t190.length co21] rfl ma ?_; (with_reducible refine (impl_VaryOf.calls k _ _ t190 t193 _ ?side1 ?side2 ?side3 A8.out).mono ?_); (case side1 => exact GLOBM.below HGM.out bl); (case side2 => exact rc HO192); (case side3 => exact (Kd.R_reads' HO192.out).2.1); rintro e w22 ⟨v194, rfl, ho0, hb⟩; refine ⟨_, rfl, ?_⟩; replace HO186 := kr HO186 hb; replace HO192 := kr HO192 hb; have HO195 := am (Kd.R_lower (Kd.R_new' ho0 (Kd.R_lt (ro HO189))) (below_size bl)); replace HO189 := am (Kd.R_elder' (ro HO189) (Kd.R_base ho0) hb); replace HB := am (below_step bl hb); (try clear hb); (try clear hb2); (try clear hk); (try clear hi); (try clear ho0); obtain ⟨Ao23, co23, eo23⟩ := Kd.R_slice HO195.out; subst eo23; obtain ⟨Ao24, co24, eo24⟩ := Kd.R_slice HO189.out; subst eo24) | ((with_reducible refine gate_callee (f := 21) rfl ?_); refine goesL_ (some 25) rfl rfl Tryd.func21 (by kernel_rfl) rfl #[.slice Ao23 t193.length co23, .slice Ao24 t187.length co24] rfl ma ?_; (with_reducible refine (laws_eqStringS.calls k _ _ t193 _ _ t187 true _ ?side1 ?side2 ?side3 ?side4 A9.out).mono ?_); (case side1 => exact rc HO195); (case side2 => exact (Kd.R_reads' HO195.out).2.1); (case side3 => exact rc HO189); (case side4 => exact (Kd.R_reads' HO189.out).2.1); rintro e w' ⟨rfl, ⟨nd, rfl⟩⟩; refine ⟨_, rfl, ?_⟩) | ((with_reducible refine gate_callee (f := 19) rfl ?_); refine goesL_ (some 29) rfl rfl Tryd.func19 (by kernel_rfl) rfl #[.slice A0 l0.length c0] rfl ma ?_; (with_reducible refine (laws_toFieldS.calls k _ _ l0 t197 _ ?side1 ?side2 A11.out).mono ?_); (case side1 => repeat (first | exact (Kd.C_below HR0.out bl) | (with_reducible refine Kd.C_alloc ?_ _) | (with_reducible refine Kd.C_drewN ?_ _) | (with_reducible refine Kd.C_drew ?_))); (case side2 => exact HC0.out); rintro e w25 ⟨v198, rfl, ho0, hb⟩; refine ⟨_, rfl, ?_⟩; replace HO189 := kr HO189 hb; replace HO195 := kr HO195 hb; have HO199 := am (Kd.R_lower (Kd.R_new' (Kd.R_new' ho0 (Kd.R_lt (ro HO186))) (Kd.R_lt (ro HO192))) (below_size bl)); replace HO186 := am (Kd.R_elder' (ro HO186) (Kd.R_base ho0) hb); replace HO192 := am (Kd.R_elder' (ro HO192) (Kd.R_base ho0) hb); replace HB := am (below_step bl hb); (try clear hb); (try clear hb2); (try clear hk); (try clear hi); (try clear ho0); obtain ⟨Ao26, co26, eo26⟩ := Kd.R_slice HO199.out; subst eo26) | ((with_reducible refine gate_callee (f := 22) rfl ?_); refine goesL_ (some 30) rfl rfl Tryd.func22 (by kernel_rfl) rfl #[.slice Ao21 t190.length co21, .slice Ao26 t197.length co26] rfl ma ?_; (with_reducible refine (laws_eqFieldS.calls k _ _ t190 _ _ t197 true _ ?side1 ?side2 ?side3 ?side4 A12.out).mono ?_); (case side1 => exact rc HO192); (case side2 => exact (Kd.R_reads' HO192.out).2.1); (case side3 => exact rc HO199); (case side4 => exact (Kd.R_reads' HO199.out).2.1); rintro e w27 ⟨rfl, hb⟩; refine ⟨_, rfl, ?_⟩; replace HO186 := kr HO186 hb; replace HO189 := kr HO189 hb; replace HO192 := kr HO192 hb; replace HO195 := kr HO195 hb; replace HO199 := kr HO199 hb; replace HB := am (below_step bl hb); (try clear hb); (try clear hb2); (try clear hk); (try clear hi)) | ((with_reducible refine gate_callee (f := 23) rfl ?_); refine goesL_ (some 34) rfl rfl Tryd.func23 (by kernel_rfl) rfl #[.slice Ao21 t190.length co21, .int .i64 1] rfl ma ?_; (with_reducible refine (laws_markFieldS.calls k (fun k_ => some k_ = (.slice Ao21 t190.length co21 : Value).ownBlock) (.slice Ao21 t190.length co21) t190 1 t201 t202 w _ ?side1 ?side2 A14.out).mono ?_); (case side1 => repeat (first | (with_reducible first | exact HB.out | apply below_alloc | apply pw_below_drewN | apply below_drew1) | exact HB.out)); (case side2 => exact Kd.R_tight rfl HO192.out); rintro e w28 ⟨rfl, hy0, hb, hkp⟩; refine ⟨_, rfl, ?_⟩; replace HO186 := am (Kd.R_mono (ok' := fun k_ => some k_ ≠ (.slice Ao21 t190.length co21 : Value).ownBlock ∧ some k_ ≠ (.slice Ao26 t197.length co26 : Value).ownBlock) (Kd.R_keptB (HO186.out) hkp (fun k_ hk_ hs_ => (hk_.1.2) hs_)) (fun k_ hk_ => ⟨hk_.1.1.2, hk_.1.2⟩)); replace HO189 := am (Kd.R_mono (ok' := fun k_ => some k_ ≠ (.slice Ao23 t193.length co23 : Value).ownBlock) (Kd.R_keptB ((Kd.R_apart' HO189.out (Kd.R_typed HO192.out) (by decide))) hkp (fun k_ hk_ hs_ => (hk_.2) hs_)) (fun k_ hk_ => hk_.1.1.2)); replace HO195 := am (Kd.R_mono (ok' := fun k_ => some k_ ≠ (.slice Ao24 t187.length co24 : Value).ownBlock) (Kd.R_keptB ((Kd.R_apart' HO195.out (Kd.R_typed HO192.out) (by decide))) hkp (fun k_ hk_ hs_ => (hk_.2) hs_)) (fun k_ hk_ => hk_.1.1.2)); replace HO192 := am (Kd.R_reok rfl hy0 (fun k_ e_ => HO192.out.1 k_ e_)); replace HO199 := am (Kd.R_mono (ok' := fun k_ => some k_ ≠ (.slice Ao18 t184.length co18 : Value).ownBlock ∧ some k_ ≠ (.slice Ao21 t190.length co21 : Value).ownBlock) (Kd.R_keptB (HO199.out) hkp (fun k_ hk_ hs_ => (hk_.2) hs_)) (fun k_ hk_ => ⟨hk_.1.1.2, hk_.1.2⟩)); replace HB := am (hb); (try clear hb); (try clear hkp); (try clear hy0)))
    (try simp only [Act.put, List.setIfInBounds_toArray, List.set_cons_zero, List.set_cons_succ])
    go_cut [42] (fun v42 wc => ∃ (kq : Nat) (x42_14 : Bool), v42 = .bool x42_14 ∧ Aside0 (laws_FnExactVaryOf.j0 kq l0 t187 t193 x42_14 = some r) ∧ Aside0 (kq ≤ k) ∧ Aside0 (Kd.R Kd.string 9 wc w.heap.size (fun k_ => some k_ ≠ ((.slice Ao23 t193.length co23) : Value).ownBlock) (.slice Ao24 t187.length co24) t187) ∧ Aside0 (Kd.R Kd.string 9 wc w.heap.size (fun k_ => some k_ ≠ ((.slice Ao24 t187.length co24) : Value).ownBlock) (.slice Ao23 t193.length co23) t193) ∧ Aside0 (Below w.heap.size w wc))
    case first =>
     have H := HC15.out
     clear HC15
     by_cases c29 : t201 < 0
     ·rw [if_pos c29] at H
      have c29b0 : decide (t201 < 0) = true := decide_eq_true c29
      clear c29
      (first | rw [c29b0] | (simp only [i64_w, i32_w]; rw [c29b0]) | skip)
      cases k with
      | zero => exact absurd H (by simp [laws_FnExactVaryOf.j0])
      | succ k_ => simp only [laws_FnExactVaryOf.j0, if_true] at H; exact absurd (Option.some.inj H) (by rw [ht_]; decide)
     ·rw [if_neg c29] at H
      have c29b0 : decide (t201 < 0) = false := decide_eq_false c29
      clear c29
      (first | rw [c29b0] | (simp only [i64_w, i32_w]; rw [c29b0]) | skip)
      replace H := ob H
      obtain ⟨t203, A300, H⟩ := H
      replace H : (laws_FnExactVaryOf.j0 k l0 t187 t193 (!t203)) = some r := H
      have A30 := am A300
      clear A300
      have H' := am H
      clear H
      go_wp2_with (first | (go_at_call 21; (with_reducible refine (laws_eqStringS.calls k _ _ t193 _ _ t187 t203 _ ?side1 ?side2 ?side3 ?side4 A30.out).mono ?_); (case side1 => exact rc HO195); (case side2 => exact (Kd.R_reads' HO195.out).2.1); (case side3 => exact rc HO189); (case side4 => exact (Kd.R_reads' HO189.out).2.1); rintro e w' ⟨rfl, ⟨nd, rfl⟩⟩))
      go_meet
      case rel => exact ⟨_, (!t203), rs, H', ⟨by first | omega | exact Nat.le_refl _⟩, ⟨by (with_reducible repeat (first | apply Kd.R_alloc | apply Kd.R_drewN | apply Kd.R_drew)); exact HO189.out⟩, ⟨by (with_reducible repeat (first | apply Kd.R_alloc | apply Kd.R_drewN | apply Kd.R_drew)); exact HO195.out⟩, ⟨by repeat (first | (with_reducible first | exact HB.out | apply below_alloc | apply pw_below_drewN | apply below_drew1) | exact HB.out)⟩⟩
    case rest =>
     clear HC15
     try clear c1
     try clear c2
     try clear p2
     try clear c3
     try clear c3b0
     try clear c10
     try clear c13
     try clear c17
     try clear c18
     try clear c19
     try clear c20
     try clear c21
     try clear c22
     try clear c23
     try clear c29
     try clear c29b0
     obtain ⟨kq, x42_14, rfl, HA, HJ14, HO_4, HO_6, HB⟩ := hcut
     cases kq with
     | zero => exact absurd HA.out (by simp [laws_FnExactVaryOf.j0])
     | succ kj14 =>
      have H := HA.out
      clear HA
      simp only [laws_FnExactVaryOf.j0] at H
      by_cases c31 : x42_14 = true
      ·subst c31
       have H1 : (some false) = some r := by rw [if_pos rfl] at H; exact H
       clear H
       have H := H1
       clear H1
       exact absurd (Option.some.inj H) (by rw [ht_]; decide)
      ·replace c31 := Bool.eq_false_iff.mpr c31
       subst c31
       have H1 : ((laws_markStringS.f kj14 t193 1).bind fun bt204 => ((laws_heldStringS.f kj14 bt204.2 1).bind fun t206 => (if t206 < 0 then (some false) else (if t206 = bt204.1 then ((laws_toFieldS.f kj14 l0).bind fun t207 => ((impl_VaryOf.f kj14 t207).bind fun t210 => ((laws_eqStringS.f kj14 t210 t187).bind fun t213 => (if t213 = true then ((laws_heldStringS.f kj14 bt204.2 1).bind fun t214 => (if t214 < 0 then (some false) else (if t214 = bt204.1 then (some true) else (some false)))) else (some false))))) else (some false))))) = some r := by rw [if_neg (show ¬ (false = true) by decide)] at H; exact H
       clear H
       have H := H1
       clear H1
       replace H := ob H
       obtain ⟨⟨t204, t205⟩, A320, H⟩ := H
       replace H : ((laws_heldStringS.f kj14 t205 1).bind fun t206 => (if t206 < 0 then (some false) else (if t206 = t204 then ((laws_toFieldS.f kj14 l0).bind fun t207 => ((impl_VaryOf.f kj14 t207).bind fun t210 => ((laws_eqStringS.f kj14 t210 t187).bind fun t213 => (if t213 = true then ((laws_heldStringS.f kj14 t205 1).bind fun t214 => (if t214 < 0 then (some false) else (if t214 = t204 then (some true) else (some false)))) else (some false))))) else (some false)))) = some r := H
       have A32 := am A320
       clear A320
       replace H := ob H
       obtain ⟨t206, A330, H⟩ := H
       replace H : (if t206 < 0 then (some false) else (if t206 = t204 then ((laws_toFieldS.f kj14 l0).bind fun t207 => ((impl_VaryOf.f kj14 t207).bind fun t210 => ((laws_eqStringS.f kj14 t210 t187).bind fun t213 => (if t213 = true then ((laws_heldStringS.f kj14 t205 1).bind fun t214 => (if t214 < 0 then (some false) else (if t214 = t204 then (some true) else (some false)))) else (some false))))) else (some false))) = some r := H
       have A33 := am A330
       clear A330
       by_cases c34 : t206 < 0
       ·rw [if_pos c34] at H
        have c34b0 : decide (t206 < 0) = true := decide_eq_true c34
        clear c34
        exact absurd (Option.some.inj H) (by rw [ht_]; decide)
       ·rw [if_neg c34] at H
        have c34b0 : decide (t206 < 0) = false := decide_eq_false c34
        clear c34
        by_cases c35 : t206 = t204
        ·rw [if_pos c35] at H
         have c35b0 : (t206 == t204) = true := beq_iff_eq.mpr c35
         have c35b1 : (t206 != t204) = false := bne_eq_false_iff_eq.mpr c35
         clear c35
         replace H := ob H
         obtain ⟨t207, A360, H⟩ := H
         replace H : ((impl_VaryOf.f kj14 t207).bind fun t210 => ((laws_eqStringS.f kj14 t210 t187).bind fun t213 => (if t213 = true then ((laws_heldStringS.f kj14 t205 1).bind fun t214 => (if t214 < 0 then (some false) else (if t214 = t204 then (some true) else (some false)))) else (some false)))) = some r := H
         have A36 := am A360
         clear A360
         replace H := ob H
         obtain ⟨t210, A370, H⟩ := H
         replace H : ((laws_eqStringS.f kj14 t210 t187).bind fun t213 => (if t213 = true then ((laws_heldStringS.f kj14 t205 1).bind fun t214 => (if t214 < 0 then (some false) else (if t214 = t204 then (some true) else (some false)))) else (some false))) = some r := H
         have A37 := am A370
         clear A370
         replace H := ob H
         obtain ⟨t213, A380, H⟩ := H
         replace H : (if t213 = true then ((laws_heldStringS.f kj14 t205 1).bind fun t214 => (if t214 < 0 then (some false) else (if t214 = t204 then (some true) else (some false)))) else (some false)) = some r := H
         have A38 := am A380
         clear A380
         by_cases c39 : t213 = true
         ·subst c39
          have H1 : ((laws_heldStringS.f kj14 t205 1).bind fun t214 => (if t214 < 0 then (some false) else (if t214 = t204 then (some true) else (some false)))) = some r := by rw [if_pos rfl] at H; exact H
          clear H
          have H := H1
          clear H1
          replace H := ob H
          obtain ⟨t214, A400, H⟩ := H
          replace H : (if t214 < 0 then (some false) else (if t214 = t204 then (some true) else (some false))) = some r := H
          have A40 := am A400
          clear A400
          by_cases c41 : t214 < 0
          ·rw [if_pos c41] at H
           have c41b0 : decide (t214 < 0) = true := decide_eq_true c41
           clear c41
           exact absurd (Option.some.inj H) (by rw [ht_]; decide)
          ·rw [if_neg c41] at H
           have c41b0 : decide (t214 < 0) = false := decide_eq_false c41
           clear c41
           by_cases c42 : t214 = t204
           ·rw [if_pos c42] at H
            have c42b0 : (t214 == t204) = true := beq_iff_eq.mpr c42
            have c42b1 : (t214 != t204) = false := bne_eq_false_iff_eq.mpr c42
            clear c42
            obtain rfl := Option.some.inj H
            go_wp2_with (first | ((with_reducible refine gate_callee (f := 24) rfl ?_); refine goesL_ (some 45) rfl rfl Tryd.func24 (by kernel_rfl) rfl #[.slice Ao23 t193.length co23, .int .i64 1] rfl ma ?_; (with_reducible refine (laws_markStringS.calls kj14 (fun k_ => some k_ = (.slice Ao23 t193.length co23 : Value).ownBlock) (.slice Ao23 t193.length co23) t193 1 t204 t205 w _ ?side1 ?side2 A32.out).mono ?_); (case side1 => repeat (first | (with_reducible first | exact HB.out | apply below_alloc | apply pw_below_drewN | apply below_drew1) | exact HB.out)); (case side2 => exact Kd.R_tight rfl HO_6.out); rintro e w43 ⟨rfl, hy0, hb, hkp⟩; refine ⟨_, rfl, ?_⟩; replace HO_4 := am (Kd.R_mono (ok' := fun k_ => some k_ ≠ (.slice Ao23 t193.length co23 : Value).ownBlock) (Kd.R_keptB (HO_4.out) hkp (fun k_ hk_ hs_ => (hk_) hs_)) (fun k_ hk_ => hk_.1)); replace HO_6 := am (Kd.R_reok rfl hy0 (fun k_ e_ => HO_6.out.1 k_ e_)); replace HB := am (hb); (try clear hb); (try clear hkp); (try clear hy0)) | ((with_reducible refine gate_callee (f := 25) rfl ?_); refine goesL_ (some 48) rfl rfl Tryd.func25 (by kernel_rfl) rfl #[.slice Ao23 t205.length co23, .int .i64 1] rfl (by (try simp only [List.map_toArray, List.map_cons, List.map_nil]); first | done | (rw [show t205.length = t193.length from (Kd.R_reads' HO_6.out).1.symm] <;> rfl) | rfl | (simp only [List.length_drop, List.length_take]; rfl)) ?_; (with_reducible refine (laws_heldStringS.calls kj14 _ _ t205 1 t206 _ ?side1 ?side2 A33.out).mono ?_); (case side1 => exact rc HO_6); (case side2 => rw [show t205.length = t193.length from (Kd.R_reads' HO_6.out).1.symm]; exact (Kd.R_reads' HO_6.out).2.1); rintro e w44 ⟨rfl, hb⟩; refine ⟨_, rfl, ?_⟩; replace HO_4 := kr HO_4 hb; replace HO_6 := kr HO_6 hb; replace HB := am (below_step bl hb); (try clear hb); (try clear hb2); (try clear hk); (try clear hi)) | ((with_reducible refine gate_callee (f := 19) rfl ?_); refine goesL_ (some 55) rfl rfl Tryd.func19 (by kernel_rfl) rfl #[.slice A0 l0.length c0] rfl ma ?_; (with_reducible refine (laws_toFieldS.calls kj14 _ _ l0 t207 _ ?side1 ?side2 A36.out).mono ?_); (case side1 => exact cb HR0); (case side2 => exact HC0.out); rintro e w45 ⟨v208, rfl, ho0, hb⟩; refine ⟨_, rfl, ?_⟩; replace HO_4 := kr HO_4 hb; replace HO_6 := kr HO_6 hb; have HO209 := am (Kd.R_lower ho0 (below_size bl)); replace HB := am (below_step bl hb); (try clear hb); (try clear hb2); (try clear hk); (try clear hi); (try clear ho0); obtain ⟨Ao46, co46, eo46⟩ := Kd.R_slice HO209.out; subst eo46) | ((with_reducible refine gate_callee (f := 20) rfl ?_); refine goesL_ (some 56) rfl rfl Tryd.func20 (by kernel_rfl) rfl #[.slice Ao46 t207.length co46] rfl ma ?_; (with_reducible refine (impl_VaryOf.calls kj14 _ _ t207 t210 _ ?side1 ?side2 ?side3 A37.out).mono ?_); (case side1 => exact GLOBM.below HGM.out bl); (case side2 => exact rc HO209); (case side3 => exact (Kd.R_reads' HO209.out).2.1); rintro e w47 ⟨v211, rfl, ho0, hb⟩; refine ⟨_, rfl, ?_⟩; replace HO209 := kr HO209 hb; have HO212 := am (Kd.R_lower (Kd.R_new' (Kd.R_new' ho0 (Kd.R_lt (ro HO_4))) (Kd.R_lt (ro HO_6))) (below_size bl)); replace HO_4 := am (Kd.R_elder' (ro HO_4) (Kd.R_base ho0) hb); replace HO_6 := am (Kd.R_elder' (ro HO_6) (Kd.R_base ho0) hb); replace HB := am (below_step bl hb); (try clear hb); (try clear hb2); (try clear hk); (try clear hi); (try clear ho0); obtain ⟨Ao48, co48, eo48⟩ := Kd.R_slice HO212.out; subst eo48) | ((with_reducible refine gate_callee (f := 21) rfl ?_); refine goesL_ (some 59) rfl rfl Tryd.func21 (by kernel_rfl) rfl #[.slice Ao48 t210.length co48, .slice Ao24 t187.length co24] rfl ma ?_; (with_reducible refine (laws_eqStringS.calls kj14 _ _ t210 _ _ t187 true _ ?side1 ?side2 ?side3 ?side4 A38.out).mono ?_); (case side1 => exact rc HO212); (case side2 => exact (Kd.R_reads' HO212.out).2.1); (case side3 => exact rc HO_4); (case side4 => exact (Kd.R_reads' HO_4.out).2.1); rintro e w' ⟨rfl, ⟨nd, rfl⟩⟩; refine ⟨_, rfl, ?_⟩) | ((with_reducible refine gate_callee (f := 25) rfl ?_); refine goesL_ (some 63) rfl rfl Tryd.func25 (by kernel_rfl) rfl #[.slice Ao23 t205.length co23, .int .i64 1] rfl (by (try simp only [List.map_toArray, List.map_cons, List.map_nil]); first | done | (rw [show t205.length = t193.length from (Kd.R_reads' HO_6.out).1.symm] <;> rfl) | rfl | (simp only [List.length_drop, List.length_take]; rfl)) ?_; (with_reducible refine (laws_heldStringS.calls kj14 _ _ t205 1 t214 _ ?side1 ?side2 A40.out).mono ?_); (case side1 => exact rc HO_6); (case side2 => rw [show t205.length = t193.length from (Kd.R_reads' HO_6.out).1.symm]; exact (Kd.R_reads' HO_6.out).2.1); rintro e w49 ⟨rfl, hb⟩; refine ⟨_, rfl, ?_⟩; replace HO_4 := kr HO_4 hb; replace HO_6 := kr HO_6 hb; replace HO209 := kr HO209 hb; replace HO212 := kr HO212 hb; replace HB := am (below_step bl hb); (try clear hb); (try clear hb2); (try clear hk); (try clear hi)))
            go_ret
            exact ⟨rf, bl⟩
           ·rw [if_neg c42] at H
            have c42b0 : (t214 == t204) = false := beq_eq_false_iff_ne.mpr c42
            have c42b1 : (t214 != t204) = true := bne_iff_ne.mpr c42
            exact absurd (Option.some.inj H) (by rw [ht_]; decide)
         ·replace c39 := Bool.eq_false_iff.mpr c39
          subst c39
          have H1 : (some false) = some r := by rw [if_neg (show ¬ (false = true) by decide)] at H; exact H
          clear H
          have H := H1
          clear H1
          exact absurd (Option.some.inj H) (by rw [ht_]; decide)
        ·rw [if_neg c35] at H
         have c35b0 : (t206 == t204) = false := beq_eq_false_iff_ne.mpr c35
         have c35b1 : (t206 != t204) = true := bne_iff_ne.mpr c35
         exact absurd (Option.some.inj H) (by rw [ht_]; decide)
   ·replace c13 := Bool.eq_false_iff.mpr c13
    subst c13
    have H1 : (some false) = some r := by rw [if_neg (show ¬ (false = true) by decide)] at H; exact H
    clear H
    have H := H1
    clear H1
    exact absurd (Option.some.inj H) (by rw [ht_]; decide)
  ·replace c10 := Bool.eq_false_iff.mpr c10
   subst c10
   have H1 : (some false) = some r := by rw [if_neg (show ¬ (false = true) by decide)] at H; exact H
   clear H
   have H := H1
   clear H1
   exact absurd (Option.some.inj H) (by rw [ht_]; decide)

end Go.Proofs.YtiinmfjbildclaaDoor.All
