-- Written by a program of this session (wip/tools/hprint.py) out of the translation. Lean checks it.
import Derived.Test.YtkgdcfaogdmcgaaDoorAllx0
import Derived.Test.YtkgdcfaogdmcgaaDoorAllx2
import Derived.Test.YtkgdcfaogdmcgaaDoorAllx5
import Derived.Test.YtkgdcfaogdmcgaaDoorAllx17
namespace Go.Proofs.YtkgdcfaogdmcgaaDoor.All
open Go.RowKit Go.Proofs.YtkgdcfaogdmcgaaDoorW.PrintWords Go.Proofs.YtkgdcfaogdmcgaaDoorW.PrintLast Go.Proofs.YtkgdcfaogdmcgaaDoorW.PrintMore
attribute [local go_sem] max2_int min2_int max_two min_two max_three min_three max_four min_four   -- for this text's walks alone
set_option linter.unusedVariables false
set_option linter.unusedSimpArgs false

/-! ### spec_FieldsText: function 64 -/
def spec_FieldsText.l0 : Nat → List (S84) → ByteArray → Int → Option (ByteArray)
 | 0, _, _, _ => none
 | k + 1, x0, x3, x4 => if x4 < (x0.length : Int) then (if 0 ≤ x4 then (if x3.size + ((rd_T84 x0 x4).f0).size ≤ 9223372036854775807 then (if (x3 ++ ((rd_T84 x0 x4).f0)).size + 2 ≤ 9223372036854775807 then (if ((x3 ++ ((rd_T84 x0 x4).f0)) ++ (⟨#[58, 32]⟩ : ByteArray)).size + ((rd_T84 x0 x4).f1).size ≤ 9223372036854775807 then (if (((x3 ++ ((rd_T84 x0 x4).f0)) ++ (⟨#[58, 32]⟩ : ByteArray)) ++ ((rd_T84 x0 x4).f1)).size + 2 ≤ 9223372036854775807 then (spec_FieldsText.l0 k x0 ((((x3 ++ ((rd_T84 x0 x4).f0)) ++ (⟨#[58, 32]⟩ : ByteArray)) ++ ((rd_T84 x0 x4).f1)) ++ (⟨#[13, 10]⟩ : ByteArray)) (wrap64 (x4 + 1))) else (none)) else (none)) else (none)) else (none)) else (none)) else (some x3)
def spec_FieldsText.f (k : Nat) (l0 : List (S84)) : Option (ByteArray) := spec_FieldsText.l0 k l0 (⟨#[]⟩ : ByteArray) 0
theorem spec_FieldsText.mono_l : ∀ k, (∀ y0 y1 y2, LeO (spec_FieldsText.l0 k y0 y1 y2) (spec_FieldsText.l0 (k + 1) y0 y1 y2))
 | 0 => fun _ _ _ r h => by simp [spec_FieldsText.l0] at h
 | k + 1 => by
  have ih0 := spec_FieldsText.mono_l k
  ·intro y0 y1 y2
   unfold spec_FieldsText.l0
   exact mo
theorem spec_FieldsText.mono : ∀ a0 k, LeO (spec_FieldsText.f k a0) (spec_FieldsText.f (k + 1) a0) := by
 intro a0 k
 have ih0 := spec_FieldsText.mono_l k
 unfold spec_FieldsText.f
 exact mo
set_option maxHeartbeats 8000000 in
set_option maxRecDepth 100000 in
theorem spec_FieldsText.calls (k : Nat) (A0 : Option Addr) (c0 : Nat) (l0 : List (S84)) (r : ByteArray) (w : World) (hr0 : Kd.C k84 w A0 l0.length l0) (hc0 : l0.length ≤ c0) (h : spec_FieldsText.f k l0 = some r) :
  Calls Tryd.prog 64 #[.slice A0 l0.length c0] w fun e w' => e = .returned (.string r) ∧ Drawn0 w w' := by
 have HR0 := am hr0
 have HC0 := am hc0
 clear hr0 hc0
 unfold spec_FieldsText.f at h
 have H := h
 clear h
 have H' := am H
 clear H
 go_enter Tryd.func64, Tryd.ntmps64
 go_wp2
 repeat (go_quiet (fail); try go_wp2)
 (try simp only [Act.put, List.setIfInBounds_toArray, List.set_cons_zero, List.set_cons_succ])
 go_loopg [3, 4] k (fun kq v3 v4 w' => ∃ (x3_1 : ByteArray) (x4_1 : Int), v3 = .string x3_1 ∧ v4 = .int .i64 x4_1 ∧ Aside0 (spec_FieldsText.l0 kq l0 x3_1 x4_1 = some r) ∧ Aside0 (kq ≤ k) ∧ Drawn0 w w')
 case atStart => exact ⟨((⟨#[]⟩ : ByteArray)), (0), rs, rs, H', ⟨Nat.le_refl _⟩, dr⟩
 case round =>
  clear H'
  obtain ⟨x3_1, x4_1, rfl, rfl, HA, HK1, ⟨m1, rfl⟩⟩ := hrel
  cases gk with
  | zero => exact absurd HA.out (by simp [spec_FieldsText.l0])
  | succ k1 =>
   have H := HA.out
   clear HA
   simp only [spec_FieldsText.l0] at H
   by_cases c2 : x4_1 < (l0.length : Int)
   rotate_left
   ·rw [if_neg c2] at H
    have c2b0 := decide_eq_false c2
    clear c2
    obtain rfl := Option.some.inj H
    go_wp2
    repeat (go_quiet (fail); try go_wp2)
    go_ret
    exact ⟨rs, dr⟩
   rw [if_pos c2] at H
   have c2b0 := decide_eq_true c2
   clear c2
   revert H
   refine ifn fun c3 H => ?_
   have c3b0 := decide_eq_true c3
   clear c3
   revert H
   refine ifn fun c4 H => ?_
   have c4b0 := eq_true c4
   have c4b1 := decide_eq_true c4
   try have c4b2 := eq_false (Nat.not_lt.2 c4)
   revert H
   refine ifn fun c5 H => ?_
   have c5b0 := eq_true c5
   have c5b1 := decide_eq_true c5
   try have c5b2 := eq_false (Nat.not_lt.2 c5)
   have c5b3 : (9223372036854775807 < (x3_1).size + ((rd_T84 l0 x4_1).f0).size + 2) = False := b3 c5
   revert H
   refine ifn fun c6 H => ?_
   have c6b0 := eq_true c6
   have c6b1 := decide_eq_true c6
   try have c6b2 := eq_false (Nat.not_lt.2 c6)
   have c6b3 : (9223372036854775807 < (x3_1).size + ((rd_T84 l0 x4_1).f0).size + 2 + ((rd_T84 l0 x4_1).f1).size) = False := b3 c6
   revert H
   refine ifn fun c7 H => ?_
   have c7b0 := eq_true c7
   have c7b1 := decide_eq_true c7
   try have c7b2 := eq_false (Nat.not_lt.2 c7)
   have c7b3 : (9223372036854775807 < (x3_1).size + ((rd_T84 l0 x4_1).f0).size + 2 + ((rd_T84 l0 x4_1).f1).size + 2) = False := b3 c7
   have H' := am H
   clear H
   have p718 : 0 ≤ (x4_1 : Int) := od
   have q718 : x4_1 < (l0.length : Int) := od
   obtain ⟨ad718, e718, hx718_0, hx718_1⟩ := at_T84 HR0.out x4_1 p718 q718
   cases e718
   replace p718 := eq_true p718
   replace q718 := eq_true q718
   have p719 : 0 ≤ (x4_1 : Int) := od
   have q719 : x4_1 < (l0.length : Int) := od
   obtain ⟨ad719, e719, hx719_0, hx719_1⟩ := at_T84 HR0.out x4_1 p719 q719
   obtain rfl : ad718 = ad719 := (by injection e719)
   replace p719 := eq_true p719
   replace q719 := eq_true q719
   go_wp2
   repeat (go_quiet (fail); try go_wp2)
   go_roundg k1
   case measure => have := HK1.out; omega
   case rel => exact ⟨((((x3_1 ++ ((rd_T84 l0 x4_1).f0)) ++ (⟨#[58, 32]⟩ : ByteArray)) ++ ((rd_T84 l0 x4_1).f1)) ++ (⟨#[13, 10]⟩ : ByteArray)), (wrap64 (x4_1 + 1)), rs, rs, H', ⟨by have := HK1.out; omega⟩, dr⟩

/-! ### spec.l3Methods: just where its row lies -/
theorem l3Methods_exact (w : World) : Calls Tryd.prog 63 #[] w fun e w' => e = .returned (.slice (some ⟨w.heap.size, 0, none⟩) 5 5) ∧ w' = w.alloc (.cells #[.string (⟨#[]⟩ : ByteArray), .string (⟨#[71, 69, 84]⟩ : ByteArray), .string (⟨#[72, 69, 65, 68]⟩ : ByteArray), .string (⟨#[80, 79, 83, 84]⟩ : ByteArray), .string (⟨#[80, 85, 82, 71, 69]⟩ : ByteArray)] 9) := by
 go_enter Tryd.func63, Tryd.ntmps63
 go_wp2
 go_ret
 exact ⟨rfl, rfl⟩
theorem deepen {P : Program} {md : Region.Mode} {ops : Array Oper} {Q : Exit → Act → World → Prop} {S S' : World → Prop} (hS : ∀ w, S' w → S w) : ∀ {fuel : Nat} {l : Array Bool} {a : Act} {w : World}, S' w → wpAnyLast P md ops Q S' [] fuel l a w → wpAnyLast P md ops Q S [] fuel l a w
 | 0, _, _, _, _, h => h
 | fuel + 1, _, _, _, hw, h => ⟨h.1, fun i hi => wpOp_mono (fun a' w' h2 => ⟨fun _ _ => hS _ (h2.1 (by simp) hw), deepen hS (h2.1 (by simp) hw) h2.2⟩) (h.2 i hi)⟩
def methodW (m : Int) : ByteArray := if m = 1 then ⟨#[71, 69, 84]⟩ else if m = 2 then ⟨#[72, 69, 65, 68]⟩ else if m = 3 then ⟨#[80, 79, 83, 84]⟩ else ⟨#[80, 85, 82, 71, 69]⟩

/-! ### spec.ReqText -/
def spec_ReqText.f (k : Nat) (a0_0 : Int) (a0_1 : ByteArray) (l0_2 : List S84) (a0_3 : ByteArray) : Option ByteArray :=
 (spec_ReqOk.f k a0_0 a0_1 l0_2 a0_3).bind fun t => if t = true then (if (1 ≤ a0_0 ∧ a0_0 ≤ 4) ∧ a0_1.size ≤ 1000000 ∧ a0_3.size ≤ 1000000 then (spec_FieldsText.f k l0_2).bind fun t2 => if t2.size ≤ 1000000000 then (if a0_3.toList = [] then some ((((((methodW a0_0 ++ (⟨#[32]⟩ : ByteArray)) ++ a0_1) ++ (⟨#[32, 72, 84, 84, 80, 47, 49, 46, 49, 13, 10]⟩ : ByteArray)) ++ t2) ++ (⟨#[13, 10]⟩ : ByteArray)) ++ a0_3) else (spec_NumText.f k (a0_3.size : Int)).bind fun t3 => if t3.size ≤ 1000000 then some (((((((((methodW a0_0 ++ (⟨#[32]⟩ : ByteArray)) ++ a0_1) ++ (⟨#[32, 72, 84, 84, 80, 47, 49, 46, 49, 13, 10]⟩ : ByteArray)) ++ t2) ++ (⟨#[99, 111, 110, 116, 101, 110, 116, 45, 108, 101, 110, 103, 116, 104, 58, 32]⟩ : ByteArray)) ++ t3) ++ (⟨#[13, 10]⟩ : ByteArray)) ++ (⟨#[13, 10]⟩ : ByteArray)) ++ a0_3) else none) else none else none) else some ⟨#[]⟩
theorem spec_ReqText.mono : ∀ a0 a1 a2 a3 k, LeO (spec_ReqText.f k a0 a1 a2 a3) (spec_ReqText.f (k + 1) a0 a1 a2 a3) := fun a0 a1 a2 a3 k => by
 unfold spec_ReqText.f
 exact LeO.bind (spec_ReqOk.mono _ _ _ _ _) (fun _ => LeO.ite (LeO.ite (LeO.bind (spec_FieldsText.mono _ _) (fun _ => LeO.ite (LeO.ite (LeO.refl _) (LeO.bind (spec_NumText.mono _ _) (fun _ => LeO.refl _))) (LeO.none _))) (LeO.none _)) (LeO.refl _))
set_option maxHeartbeats 8000000 in
set_option maxRecDepth 100000 in
theorem spec_ReqText.calls (k : Nat) (a0_0 : Int) (a0_1 : ByteArray) (A0_2 : Option Addr) (c0_2 : Nat) (l0_2 : List (S84)) (a0_3 : ByteArray) (r : ByteArray) (w : World) (hr0_2 : Kd.C k84 w A0_2 l0_2.length l0_2) (hc0_2 : l0_2.length ≤ c0_2) (h : spec_ReqText.f k a0_0 a0_1 l0_2 a0_3 = some r) :
  Calls Tryd.prog 23 #[.agg #[.int .i64 a0_0, .string a0_1, .slice A0_2 l0_2.length c0_2, .string a0_3]] w fun e w' => e = .returned (.string r) ∧ Below w.heap.size w w' := by
 have hu38 := Tryd.underlying26
 have HR0_2 := am hr0_2
 have HC0_2 := am hc0_2
 clear hr0_2 hc0_2
 have HB := am (Below.refl w.heap.size w)
 unfold spec_ReqText.f at h
 obtain ⟨t, ht, h⟩ := Option.bind_eq_some_iff.mp h
 have HT := am ht
 clear ht
 cases t with
 | false =>
  rw [if_neg (by simp)] at h
  obtain rfl := Option.some.inj h
  clear h
  go_enter Tryd.func23, Tryd.ntmps23
  go_wp2_with (first | (refine bx 1 #[.int .i64 a0_0, .string a0_1, .slice A0_2 l0_2.length c0_2, .string a0_3] 26 ?_; intro gb hgb w1 hbx hb; have BK := am hbx; replace HB := am (below_step bl hb); have c0 := (blk_cell hbx 0).trans (show _ = some (.int .i64 a0_0) from rfl); have c1 := (blk_cell hbx 1).trans (show _ = some (.string a0_1) from rfl); have c2 := (blk_cell hbx 2).trans (show _ = some (.slice A0_2 l0_2.length c0_2) from rfl); have c3 := (blk_cell hbx 3).trans (show _ = some (.string a0_3) from rfl); clear hbx hb hgb) | (go_at_call 57; refine (spec_ReqOk.calls k a0_0 a0_1 _ _ l0_2 a0_3 false _ ?h1 HC0_2.out HT.out).mono ?_; (case h1 => exact cb HR0_2); rintro e w2 ⟨rfl, hb⟩; replace HB := am (below_step bl hb); clear hb))
  go_ret
  exact ⟨rfl, bl⟩
 | true =>
  rw [if_pos rfl] at h
  split at h
  case isFalse => cases h
  rename_i hl
  obtain ⟨t2, ht2, h⟩ := Option.bind_eq_some_iff.mp h
  split at h
  case isFalse => cases h
  rename_i hz2
  have HT2 := am ht2
  clear ht2
  obtain ⟨⟨hl1, hl4⟩, hlp, hlb⟩ := hl
  have p0 := eq_true (show 0 ≤ a0_0 by omega)
  have q0 := eq_true (show a0_0 < 5 by omega)
  obtain ⟨mw, hmw, hms, hcell⟩ : ∃ mw, mw = methodW a0_0 ∧ mw.size ≤ 5 ∧ (#[.string (⟨#[]⟩ : ByteArray), .string (⟨#[71, 69, 84]⟩ : ByteArray), .string (⟨#[72, 69, 65, 68]⟩ : ByteArray), .string (⟨#[80, 79, 83, 84]⟩ : ByteArray), .string (⟨#[80, 85, 82, 71, 69]⟩ : ByteArray)] : Array Value)[a0_0.toNat]? = some (.string mw) := by
   have hj : a0_0 = 1 ∨ a0_0 = 2 ∨ a0_0 = 3 ∨ a0_0 = 4 := by omega
   rcases hj with rfl | rfl | rfl | rfl <;> exact ⟨_, rfl, by decide, rfl⟩
  rw [← hmw] at h
  have HCELL := am hcell
  have s1 : (9223372036854775807 < mw.size + 1) = False := eq_false (by omega)
  have s2 : (9223372036854775807 < mw.size + 1 + a0_1.size) = False := eq_false (by omega)
  have s3 : (9223372036854775807 < mw.size + 1 + a0_1.size + 11) = False := eq_false (by omega)
  have s4 : (9223372036854775807 < mw.size + 1 + a0_1.size + 11 + t2.size) = False := eq_false (by omega)
  have s5 : (9223372036854775807 < mw.size + 1 + a0_1.size + 11 + t2.size + 2) = False := eq_false (by omega)
  have s6 : (9223372036854775807 < mw.size + 1 + a0_1.size + 11 + t2.size + 2 + a0_3.size) = False := eq_false (by omega)
  have HZ := am (And.intro (And.intro hms hlp) (And.intro hlb hz2))
  have HH := am h
  clear h hmw hcell hl1 hl4 hlp hlb hms hz2
  go_enter Tryd.func23, Tryd.ntmps23
  try go_wp2_with (first | (refine bx 1 #[.int .i64 a0_0, .string a0_1, .slice A0_2 l0_2.length c0_2, .string a0_3] 26 ?_; intro gb hg w1 hbox hb; have BK := am hbox; replace HB := am (below_step bl hb); clear hb hbox hg; obtain ⟨z0, y0, z1, y1, z2, y2, z3, y3⟩ := cl4 BK) | (refine gl 5 Tryd.func57 #[.agg #[.int .i64 a0_0, .string a0_1, .slice A0_2 l0_2.length c0_2, .string a0_3]] ?_; (refine (spec_ReqOk.calls k a0_0 a0_1 _ _ l0_2 a0_3 true _ ?side1 ?side2 HT.out).mono ?_); (case side1 => exact cb HR0_2); (case side2 => exact HC0_2.out); rintro e w2 ⟨rfl, hb⟩; refine ⟨_, rfl, ?_⟩; replace BK := kb BK hb; replace HB := am (below_step bl hb); clear hb z0 y0 z1 y1 z2 y2 z3 y3))
  replace BK := am (blk_drew BK.out)
  replace HB := am (below_drew1 HB.out)
  refine start_ (n := 15) (S := fun w' => w'.cell? ⟨gb, 0, none⟩ = some (.int .i64 a0_0) ∧ w'.cell? ⟨gb, 1, none⟩ = some (.string a0_1) ∧ w'.cell? ⟨gb, 2, none⟩ = some (.slice A0_2 l0_2.length c0_2) ∧ w'.cell? ⟨gb, 3, none⟩ = some (.string a0_3)) (ds := []) ⟨br true [0, 15]⟩ (by kernel_rfl) rfl (by kernel_rfl) ⟨bc BK, bc BK, bc BK, bc BK⟩ (fun hHeld => ?_)
  generalize w2.drew = w3 at BK HB hHeld ⊢
  refine pu 1 8 [0, 1, 1, 13] ?_
  refine tk 2 9 [0, 1, 2, 12] ?_
  refine pu 6 13 [0, 1, 2, 3, 1, 8] ?_
  refine tk 7 14 [0, 1, 2, 3, 2, 7] ?_
  refine pu 10 17 [0, 1, 2, 3, 2, 2, 1, 4] ?_
  refine tk 11 18 [0, 1, 2, 3, 2, 2, 2, 3] ?_
  refine og 0 7 [3, 3, 2, 2, 2, 3] Tryd.func63 #[] (fun K hK => ?_)
  refine (l3Methods_exact _).mono ?_
  rintro e w4 ⟨rfl, hw4⟩
  refine ⟨_, rfl, ?_⟩
  have HM : Aside0 (w4.heap[w3.heap.size]? = some (.cells #[.string (⟨#[]⟩ : ByteArray), .string (⟨#[71, 69, 84]⟩ : ByteArray), .string (⟨#[72, 69, 65, 68]⟩ : ByteArray), .string (⟨#[80, 79, 83, 84]⟩ : ByteArray), .string (⟨#[80, 85, 82, 71, 69]⟩ : ByteArray)] 9 (0, 0))) := ⟨by rw [hw4]; exact blk_new w3 _⟩
  have hb : Below w3.heap.size w3 w4 := by rw [hw4]; exact below_alloc (Below.refl _ _) _
  replace BK := kb BK hb
  replace HB := am (below_step bl hb)
  clear hb hw4
  generalize w3.heap.size = G at HM ⊢
  refine hK.out _ _ ⟨bc BK, bc BK, bc BK, bc BK⟩ (fun hHeld => ?_)
  clear hK K
  refine nm 7 ?_
  have hx : w4.cell? ⟨G, a0_0.toNat, none⟩ = some (.string mw) := (blk_cell HM.out _).trans HCELL.out
  refine deepen (S' := fun w' => (w'.cell? ⟨gb, 0, none⟩ = some (.int .i64 a0_0) ∧ w'.cell? ⟨gb, 1, none⟩ = some (.string a0_1) ∧ w'.cell? ⟨gb, 2, none⟩ = some (.slice A0_2 l0_2.length c0_2) ∧ w'.cell? ⟨gb, 3, none⟩ = some (.string a0_3)) ∧ w'.cell? ⟨G, a0_0.toNat, none⟩ = some (.string mw)) (fun _ h => h.1) ⟨hHeld, hx⟩ ?_
  replace hHeld := And.intro hHeld hx
  refine pu 3 10 [4, 2, 2, 2, 2, 3] ?_
  refine tk 4 11 [5, 1, 2, 2, 2, 3] ?_
  refine pu 5 12 [8, 2, 2, 3] ?_
  refine pu 8 15 [9, 1, 2, 3] ?_
  refine pu 9 16 [12, 3] ?_
  refine og 12 19 [13, 2] Tryd.func64 #[.slice A0_2 l0_2.length c0_2] (fun K hK => ?_)
  refine (spec_FieldsText.calls k _ _ l0_2 t2 _ ?side1 ?side2 HT2.out).mono ?_
  (case side1 => exact cb HR0_2)
  (case side2 => exact HC0_2.out)
  rintro e w' ⟨rfl, ⟨nd, rfl⟩⟩
  refine ⟨_, rfl, ?_⟩
  refine hK.out _ _ ⟨⟨bc BK, bc BK, bc BK, bc BK⟩, hx⟩ (fun hHeld => ?_)
  clear hK K
  refine nm 19 ?_
  refine pu 13 20 [14, 1] ?_
  refine pu 14 3 [15] ?_
  refine done_ (by kernel_rfl) ?_
  replace BK : Aside0 ((w4.drewN nd).heap[gb]? = _) := BK
  replace HB : Aside0 (Below w.heap.size w (w4.drewN nd)) := am (pw_below_drewN HB.out _)
  clear hHeld hx HM
  generalize w4.drewN nd = w5 at BK HB ⊢
  obtain ⟨z0, y0, z1, y1, z2, y2, z3, y3⟩ := cl4 BK
  have h := HH.out
  by_cases hb0 : a0_3.toList = []
  ·rw [if_pos hb0] at h
   obtain rfl := Option.some.inj h
   have e1 : (a0_3.toList == ([] : List UInt8)) = true := beq_iff_eq.mpr hb0
   have e2 : (a0_3.toList != ([] : List UInt8)) = false := bne_eq_false_iff_eq.mpr hb0
   clear h HH hb0 HZ
   go_wp2
   go_ret
   exact ⟨rf, bl⟩
  ·rw [if_neg hb0] at h
   obtain ⟨t3, ht3, h⟩ := Option.bind_eq_some_iff.mp h
   split at h
   case isFalse => cases h
   rename_i hz3
   obtain rfl := Option.some.inj h
   have HT3 := am ht3
   have e1 : (a0_3.toList == ([] : List UInt8)) = false := beq_eq_false_iff_ne.mpr hb0
   have e2 : (a0_3.toList != ([] : List UInt8)) = true := bne_iff_ne.mpr hb0
   obtain ⟨⟨hz0, hz1⟩, hz4, hz2⟩ := HZ.out
   have r1 : (9223372036854775807 < mw.size + 1 + a0_1.size + 11 + t2.size + 16) = False := eq_false (by omega)
   have r2 : (9223372036854775807 < mw.size + 1 + a0_1.size + 11 + t2.size + 16 + t3.size) = False := eq_false (by omega)
   have r3 : (9223372036854775807 < mw.size + 1 + a0_1.size + 11 + t2.size + 16 + t3.size + 2) = False := eq_false (by omega)
   have r4 : (9223372036854775807 < mw.size + 1 + a0_1.size + 11 + t2.size + 16 + t3.size + 2 + 2) = False := eq_false (by omega)
   have r5 : (9223372036854775807 < mw.size + 1 + a0_1.size + 11 + t2.size + 16 + t3.size + 2 + 2 + a0_3.size) = False := eq_false (by omega)
   clear h ht3 HH hb0 HZ hz0 hz1 hz2 hz3 hz4
   go_wp2_with (first | (refine gl 29 Tryd.func50 #[.int .i64 (a0_3.size : Int)] ?_; (refine (spec_NumText.calls k (a0_3.size : Int) t3 _ HT3.out).mono ?_); rintro e w6 ⟨rfl, hb⟩; refine ⟨_, rfl, ?_⟩; clear z0 y0 z1 y1 z2 y2 z3 y3; replace BK := kb BK hb; replace HB := am (below_step bl hb); clear hb; obtain ⟨z0, y0, z1, y1, z2, y2, z3, y3⟩ := cl4 BK))
   go_ret
   exact ⟨rf, bl⟩

/-! ### an element of an array value -/
theorem run_index_plain {P : Program} (w : World) {t e : TypeId} {n : Nat} {cs : Array Value} {k : IntKind} {i : Int} {v : Value} {inf : TypeInfo} (h : P.underlying t = some (.array n e)) (he : P.plainKey e = true) (hinf : P.info? e = some inf) (hsz : P.cellsOf e = 1) (h0 : 0 ≤ i ∧ i < n) (hv : cs[i.toNat]? = some v) :
  (Instr.index t (.agg cs) (.int k i)).run P w = .ok v w := by
 simp [Instr.index, run_underlying h, asIntOf, h0, run_sizeOf w hinf, hsz, run_part_plain w he hv]

/-! ### a word out of an array -/
def impl_methodText.f (a0 : Int) : Option ByteArray := if a0 = 1 then some ⟨#[71, 69, 84]⟩ else if a0 = 2 then some ⟨#[72, 69, 65, 68]⟩ else if a0 = 3 then some ⟨#[80, 79, 83, 84]⟩ else if a0 = 4 then some ⟨#[80, 85, 82, 71, 69]⟩ else none
set_option maxHeartbeats 2000000 in
set_option maxRecDepth 100000 in
theorem impl_methodText.calls (a0 : Int) (r : ByteArray) (w : World) (h : impl_methodText.f a0 = some r) :
  Calls Tryd.prog 65 #[.int .i64 a0] w fun e w' => e = .returned (.string r) ∧ Below w.heap.size w w' := by
 unfold impl_methodText.f at h
 have HB := am (Below.refl w.heap.size w)
 obtain ⟨inf, hinf, _⟩ := Option.map_eq_some_iff.1 (show (Tryd.prog.info? 9).map (fun i => i.size) = some 1 by kernel_rfl)
 split at h
 ·rename_i e; obtain rfl := Option.some.inj h; subst e; clear h
  go_enter Tryd.func65, Tryd.ntmps65
  go_wp2
  rw [run_index_plain w Tryd.underlying137 (by kernel_rfl) hinf (by kernel_rfl) (by decide) rfl]
  simp only [Result.andThen]
  rw [Oper.upon_value]
  go_wp2
  go_ret
  exact ⟨rfl, bl⟩
 split at h
 ·rename_i e; obtain rfl := Option.some.inj h; subst e; clear h
  go_enter Tryd.func65, Tryd.ntmps65
  go_wp2
  rw [run_index_plain w Tryd.underlying137 (by kernel_rfl) hinf (by kernel_rfl) (by decide) rfl]
  simp only [Result.andThen]
  rw [Oper.upon_value]
  go_wp2
  go_ret
  exact ⟨rfl, bl⟩
 split at h
 ·rename_i e; obtain rfl := Option.some.inj h; subst e; clear h
  go_enter Tryd.func65, Tryd.ntmps65
  go_wp2
  rw [run_index_plain w Tryd.underlying137 (by kernel_rfl) hinf (by kernel_rfl) (by decide) rfl]
  simp only [Result.andThen]
  rw [Oper.upon_value]
  go_wp2
  go_ret
  exact ⟨rfl, bl⟩
 split at h
 ·rename_i e; obtain rfl := Option.some.inj h; subst e; clear h
  go_enter Tryd.func65, Tryd.ntmps65
  go_wp2
  rw [run_index_plain w Tryd.underlying137 (by kernel_rfl) hinf (by kernel_rfl) (by decide) rfl]
  simp only [Result.andThen]
  rw [Oper.upon_value]
  go_wp2
  go_ret
  exact ⟨rfl, bl⟩
 ·cases h

/-! ### strings.Builder, written and read: a builder that the call has made -/
set_option maxHeartbeats 1000000 in
set_option maxRecDepth 100000 in
theorem bldCheck_used (b : Nat) (w : World) (h0 : w.cell? ⟨b, 0, none⟩ = some (.pointer (some ⟨b, 0, none⟩))) :
  Calls Tryd.prog 142 #[.pointer (some ⟨b, 0, none⟩)] w fun e w' => e = .returned (.tuple #[]) ∧ w' = w := by
 obtain ⟨j, hj, _⟩ := Option.map_eq_some_iff.1 (show (Tryd.prog.info? 140).map (fun i => i.size) = some 2 by kernel_rfl)
 go_enter Tryd.func142, Tryd.ntmps142
 go_wp2
 rw [Lib.run_neq_ptr_same w _ Tryd.underlying138 hj]
 go_wp2
 go_end0
 exact ⟨rfl, rfl⟩
set_option maxHeartbeats 1000000 in
set_option maxRecDepth 100000 in
theorem bldCheck_fresh (b : Nat) (w : World) (h0 : w.cell? ⟨b, 0, none⟩ = some (.pointer none)) (hsh : w.shape? b = some (140, 2)) (hfz : w.frozen? ⟨b, 0, none⟩ = false) :
  Calls Tryd.prog 142 #[.pointer (some ⟨b, 0, none⟩)] w fun e w' => e = .returned (.tuple #[]) ∧ w' = w.setCell ⟨b, 0, none⟩ (.pointer (some ⟨b, 0, none⟩)) := by
 obtain ⟨j, hj, hjs⟩ := Option.map_eq_some_iff.1 (show (Tryd.prog.info? 140).map (fun i => i.size) = some 2 by kernel_rfl)
 go_enter Tryd.func142, Tryd.ntmps142
 go_wp2
 rw [Lib.run_to_unsafe w ⟨b, 0, none⟩ Tryd.underlying138 Tryd.underlying166 hj (by rw [hjs]; decide) hsh (Nat.zero_lt_succ 1)]
 simp only [Result.andThen]
 rw [Oper.upon_value]
 go_wp2
 rw [run_callFunc_extern Tryd.func154 (by kernel_rfl) (by kernel_rfl) (by kernel_rfl) (e := Extern.AbiNoEscape.same) (by kernel_rfl)]
 rw [Lib.run_noEscape]
 simp only [Result.andThen]
 rw [Oper.upon_value]
 go_wp2
 rw [Lib.run_from_unsafe w ⟨b, 0, none⟩ Tryd.underlying166 Tryd.underlying138 hj hsh (by kernel_rfl)]
 simp only [Result.andThen]
 rw [Oper.upon_value]
 go_wp2
 go_end0
 exact ⟨rfl, rfl⟩
theorem bldCheck (B b : Nat) (bs : List Value) (w : World) (h : Lib.IsBuilder 140 5 B b bs w) :
  Calls Tryd.prog 142 #[.pointer (some ⟨b, 0, none⟩)] w fun e w' => e = .returned (.tuple #[]) ∧ (Lib.BuilderAt 140 5 B b (.pointer (some ⟨b, 0, none⟩)) bs w' ∧ Below B w w') := by
 rcases h with h | h
 ·refine (bldCheck_fresh b w h.cell0 h.shape h.frozen0).mono ?_
  rintro e w' ⟨rfl, rfl⟩
  exact ⟨rfl, h.used _, (Below.refl B w).setCell (p := ⟨b, 0, none⟩) h.1 _⟩
 ·refine (bldCheck_used b w h.cell0).mono ?_
  rintro e w' ⟨rfl, rfl⟩
  exact ⟨rfl, h, Below.refl B _⟩
set_option maxHeartbeats 2000000 in
set_option maxRecDepth 100000 in
theorem bldWrite (B b : Nat) (bs : List Value) (s : ByteArray) (w : World) (h : Lib.IsBuilder 140 5 B b bs w) (hlen : bs.length + s.size ≤ 140737488355328) (hBw : B ≤ w.heap.size) :
  Calls Tryd.prog 117 #[.pointer (some ⟨b, 0, none⟩), .string s] w fun e w' => e = .returned (.tuple #[.int .i64 s.size, .nilIface]) ∧ (Lib.BuilderAt 140 5 B b (.pointer (some ⟨b, 0, none⟩)) (bs ++ Lib.strCells s) w' ∧ Below B w w') := by
 obtain ⟨i0, hi, hz0, hz1, hz2⟩ := info_parts (show (Tryd.prog.info? 5).map (fun i => (i.zero, i.size, i.bytes)) = some (some (.int .u8 0), 1, 1) by kernel_rfl)
 go_enter Tryd.func117, Tryd.ntmps117
 go_wp2_with (go_at_call 142; refine (bldCheck B b bs _ h).mono ?_)
 rintro e w1 ⟨rfl, h1, hb1⟩
 obtain ⟨hB, v, hbk, hown, hne⟩ := h1
 have c0 : w1.cell? ⟨b, 0, none⟩ = some (.pointer (some ⟨b, 0, none⟩)) := by rw [Lib.cell_of_heap hbk]; rfl
 have c1 : w1.cell? ⟨b, 1, none⟩ = some v := by rw [Lib.cell_of_heap hbk]; rfl
 go_wp2_with (at_builtin; refine Lib.wpList_append_own_string _ rfl _ _ 22 9 rfl B 5 i0 Tryd.underlying22 Tryd.underlying9 hi hz0 hz1 hz2 _ _ _ rfl hown s rfl ?c3 ?c4 ?c5 ?_)
 case c3 => unfold maxLen; omega
 case c4 => omega
 case c5 => have := hb1.size; omega
 intro v' w2 hown' hgrow _
 have hlt : b < w1.heap.size := by
  rcases Nat.lt_or_ge b w1.heap.size with h' | h'
  ·exact h'
  ·simp [Array.getElem?_eq_none h'] at hbk
 have hb2 : w2.heap[b]? = some (.cells #[.pointer (some ⟨b, 0, none⟩), v] 140 (0, 0)) := by
  rw [hgrow.block b hlt (fun e => hne e.symm)]
  exact hbk
 have d0 : w2.cell? ⟨b, 0, none⟩ = some (.pointer (some ⟨b, 0, none⟩)) := by rw [Lib.cell_of_heap hb2]; rfl
 have d1 : w2.cell? ⟨b, 1, none⟩ = some v := by rw [Lib.cell_of_heap hb2]; rfl
 have f1 : w2.frozen? ⟨b, 1, none⟩ = false := Lib.frozen_of_heap hb2 1
 obtain ⟨ao, n', cap, rfl⟩ : ∃ ao n' cap, v' = .slice ao n' cap := by
  rcases hown'.2 with ⟨hv, _⟩ | ⟨g, cap, cur, hv, _⟩
  ·exact ⟨_, _, _, hv⟩
  ·exact ⟨_, _, _, hv⟩
 go_wp2
 go_ret2
 refine ⟨rfl, ?_, ?_⟩
 ·exact Lib.BuilderAt.put (T := 140) (e := 5) hB hb2 (bs' := bs ++ Lib.strCells s) (by simpa [Lib.strCells_length] using hown') (by decide)
 ·exact (hb1.grown hgrow (by have := hb1.size; omega) (fun k hk => (hown.lt k hk).1)).setCell (p := ⟨b, 1, none⟩) hB _
theorem bldAt_below {T e : TypeId} {B b : Nat} {p : Value} {bs : List Value} {w w1 : World} (h : Lib.BuilderAt T e B b p bs w) (hb : Below w.heap.size w w1) : Lib.BuilderAt T e B b p bs w1 := by
 obtain ⟨h1, v, h2, h3, h4⟩ := h
 exact ⟨h1, v, blk_below h2 hb, pw_own_below h3 hb, h4⟩
theorem bld_below {T e : TypeId} {B b : Nat} {bs : List Value} {w w1 : World} (h : Lib.IsBuilder T e B b bs w) (hb : Below w.heap.size w w1) : Lib.IsBuilder T e B b bs w1 := by
 rcases h with h | h
 ·exact .inl (bldAt_below h hb)
 ·exact .inr (bldAt_below h hb)

/-! ### impl.FieldsText: through a strings.Builder -/
def fieldLine (x : S84) : List UInt8 := x.f0.data.toList ++ [58, 32] ++ x.f1.data.toList ++ [13, 10]
def fieldLines : List S84 → List UInt8
 | [] => []
 | x :: r => fieldLine x ++ fieldLines r
theorem fieldLines_append : ∀ a b, fieldLines (a ++ b) = fieldLines a ++ fieldLines b
 | [], b => rfl
 | x :: r, b => by simp [fieldLines, fieldLines_append r b]
theorem fieldLines_take {l : List S84} {k : Nat} (h : k < l.length) : fieldLines (l.take (k + 1)) = fieldLines (l.take k) ++ fieldLine l[k] := by
 rw [List.take_succ_eq_append_getElem h, fieldLines_append]; simp [fieldLines]
theorem fieldLines_le {l : List S84} {k : Nat} (h : k < l.length) : (fieldLines (l.take k)).length + (fieldLine l[k]).length ≤ (fieldLines l).length := by
 have h1 : fieldLines l = fieldLines (l.take (k + 1)) ++ fieldLines (l.drop (k + 1)) := by rw [← fieldLines_append, List.take_append_drop]
 rw [h1, fieldLines_take h, List.length_append, List.length_append]; omega
def impl_FieldsText.f (l0 : List S84) : Option ByteArray := if l0.length < 4398046511104 ∧ (fieldLines l0).length ≤ 1099511627776 then some ⟨(fieldLines l0).toArray⟩ else none
set_option maxHeartbeats 4000000 in
set_option maxRecDepth 100000 in
theorem impl_FieldsText.calls (A0 : Option Addr) (c0 : Nat) (l0 : List (S84)) (r : ByteArray) (w : World) (hr0 : Kd.C k84 w A0 l0.length l0) (hc0 : l0.length ≤ c0) (h : impl_FieldsText.f l0 = some r) :
  Calls Tryd.prog 66 #[.slice A0 l0.length c0] w fun e w' => e = .returned (.string r) ∧ Below w.heap.size w w' := by
 unfold impl_FieldsText.f at h
 split at h
 case isFalse => cases h
 rename_i hl
 obtain rfl := Option.some.inj h
 have HN := am hl
 have HR := am hr0
 clear h hl hr0 hc0
 have HF := am (Lib.fresh_isBuilder 140 5 w)
 go_enter Tryd.func66, Tryd.ntmps66
 go_wp2
 go_loopw [8] (fun i wr => ∃ k : Nat, k ≤ l0.length ∧ i = .int .i64 k ∧ Aside0 (Lib.IsBuilder 140 5 w.heap.size w.heap.size (Lib.byteCells (fieldLines (l0.take k))) wr) ∧ Below w.heap.size w wr) (fun i _ => l0.length - (intOf i).toNat)
 case atStart => exact ⟨0, Nat.zero_le _, rfl, HF, (Below.refl _ _).alloc (Nat.le_refl _) _⟩
 case round =>
  obtain ⟨k, hk, rfl, hr, hb⟩ := hrel
  have hk2 : ((k : Nat) : Int) ≤ 4611686018427387904 := by have := HN.out.1; omega
  by_cases hlt : k < l0.length
  ·obtain ⟨ad, e1, hx0, hx1⟩ := at_T84 HR.out k (by omega) (by omega)
   have hx : rd_T84 l0 k = l0[k] := by simp [rd_T84, List.getD, hlt]
   rw [hx, Int.toNat_natCast] at hx0 hx1
   cases e1
   replace hx0 := pw_cell_below hb hx0
   replace hx1 := pw_cell_below hb hx1
   have hle := fieldLines_le hlt
   have hsz : (fieldLine l0[k]).length = l0[k].f0.size + 2 + l0[k].f1.size + 2 := by
    simp only [fieldLine, List.length_append, data_length]; rfl
   have ht := fieldLines_take hlt
   obtain ⟨f0, hf0⟩ : ∃ f, f = l0[k].f0 := ⟨_, rfl⟩
   obtain ⟨f1, hf1⟩ : ∃ f, f = l0[k].f1 := ⟨_, rfl⟩
   have hline : fieldLine l0[k] = (f0 ++ (⟨#[58, 32]⟩ : ByteArray) ++ f1 ++ (⟨#[13, 10]⟩ : ByteArray)).data.toList := by
    rw [hf0, hf1]; simp [fieldLine, ByteArray.data_append]
   rw [← hf0] at hx0
   rw [← hf1] at hx1
   rw [hline] at ht
   rw [hsz, ← hf0, ← hf1] at hle
   have HT := am ht
   have s1 : f0.size + 2 ≤ 9223372036854775807 := by have := HN.out.2; omega
   have s2 : f0.size + 2 + f1.size ≤ 9223372036854775807 := by have := HN.out.2; omega
   have s3 : f0.size + 2 + f1.size + 2 ≤ 9223372036854775807 := by have := HN.out.2; omega
   have HLE := am hle
   clear hx hle hsz ht hline hf0 hf1
   have HS : ((f0 ++ (⟨#[58, 32]⟩ : ByteArray) ++ f1 ++ (⟨#[13, 10]⟩ : ByteArray)).size) = f0.size + 2 + f1.size + 2 := by
    rw [ByteArray.size_append, ByteArray.size_append, ByteArray.size_append]; rfl
   have HS := am HS
   go_wp2_with (first | (go_at_call 117; refine (bldWrite w.heap.size w.heap.size _ _ _ (bld_below hr.out ((Below.refl _ _).alloc (Nat.le_refl _) _)) (by rw [HS.out, Lib.byteCells_length]; have := HLE.out; have := HN.out.2; omega) (by have := hb.size; simp; omega)).mono ?_; rintro e w2 ⟨rfl, h2, hb2⟩; rw [Lib.strCells_eq, ← Lib.byteCells_append, ← HT.out] at h2; have H2 := am h2; have HB2 := am hb2; clear h2 hb2))
   go_roundw
   case rel => exact ⟨k + 1, by omega, by go_num, ⟨.inr H2.out⟩, (hb.alloc hb.size _).trans HB2.out⟩
   case measure => simp [intOf]; omega
  ·have hkk : k = l0.length := by omega
   have HK := am hkk
   clear hkk
   go_wp2_with (first | (go_at_call 118; refine (Tryd.Builder_String_any w.heap.size w.heap.size _ _ hr.out hb.size).mono ?_; rintro e w2 ⟨rfl, hb2⟩; have HB2 := am hb2; clear hb2))
   go_ret
   exact ⟨by rw [HK.out, List.take_length]; rfl, hb.trans HB2.out⟩

/-! ### impl_lengthLine: function 67 -/
def impl_lengthLine.f (a0 : ByteArray) : Option (ByteArray) := (strconv_Itoa.f (a0.size : Int)).bind fun t736 => (if 16 + t736.size ≤ 9223372036854775807 then (if ((⟨#[99, 111, 110, 116, 101, 110, 116, 45, 108, 101, 110, 103, 116, 104, 58, 32]⟩ : ByteArray) ++ t736).size + 2 ≤ 9223372036854775807 then (some (((⟨#[99, 111, 110, 116, 101, 110, 116, 45, 108, 101, 110, 103, 116, 104, 58, 32]⟩ : ByteArray) ++ t736) ++ (⟨#[13, 10]⟩ : ByteArray))) else (none)) else (none))
set_option maxHeartbeats 8000000 in
set_option maxRecDepth 100000 in
theorem impl_lengthLine.calls (a0 : ByteArray) (r : ByteArray) (w : World) (hGT : GLOBT w) (h : impl_lengthLine.f a0 = some r) :
  Calls Tryd.prog 67 #[.string a0] w fun e w' => e = .returned (.string r) ∧ Below w.heap.size w w' := by
 have HGT := am hGT
 clear hGT
 have HB := am (Below.refl w.heap.size w)
 unfold impl_lengthLine.f at h
 have H := h
 clear h
 revert H
 refine ok1 fun t736 A2 H => ?_
 revert H
 refine ifn fun c3 H => ?_
 have c3b0 := eq_true c3
 have c3b1 := decide_eq_true c3
 try have c3b2 := eq_false (Nat.not_lt.2 c3)
 revert H
 refine ifn fun c4 H => ?_
 have c4b0 := eq_true c4
 have c4b1 := decide_eq_true c4
 try have c4b2 := eq_false (Nat.not_lt.2 c4)
 have c4b3 : (9223372036854775807 < 16 + (t736).size + 2) = False := b3 c4
 obtain rfl := Option.some.inj H
 go_enter Tryd.func67, Tryd.ntmps67
 go_wp2_with (first | (refine gl 5 Tryd.func119 #[.int .i64 (a0.size : Int)] ?_; (with_reducible refine (strconv_Itoa.calls (a0.size : Int) t736 _ ?side1 A2.out).mono ?_); (case side1 => exact GLOBT.below HGT.out bl); rintro e w5 ⟨rfl, hb⟩; refine ⟨_, rfl, ?_⟩; replace HB := am (below_step bl hb); clear hb))
 go_ret
 exact ⟨rf, bl⟩

/-! ### impl_ReqText: function 25 -/
def impl_ReqText.f (k : Nat) (a0_0 : Int) (a0_1 : ByteArray) (l0_2 : List (S84)) (a0_3 : ByteArray) : Option (ByteArray) := (impl_ReqOk.f k a0_0 a0_1 l0_2 a0_3).bind fun t738 => (if t738 = true then ((impl_methodText.f a0_0).bind fun t739 => (if t739.size + 1 ≤ 9223372036854775807 then (if (t739 ++ (⟨#[32]⟩ : ByteArray)).size + a0_1.size ≤ 9223372036854775807 then (if ((t739 ++ (⟨#[32]⟩ : ByteArray)) ++ a0_1).size + 1 ≤ 9223372036854775807 then (if (((t739 ++ (⟨#[32]⟩ : ByteArray)) ++ a0_1) ++ (⟨#[32]⟩ : ByteArray)).size + 8 ≤ 9223372036854775807 then (if ((((t739 ++ (⟨#[32]⟩ : ByteArray)) ++ a0_1) ++ (⟨#[32]⟩ : ByteArray)) ++ (⟨#[72, 84, 84, 80, 47, 49, 46, 49]⟩ : ByteArray)).size + 2 ≤ 9223372036854775807 then ((impl_FieldsText.f l0_2).bind fun t740 => (if (((((t739 ++ (⟨#[32]⟩ : ByteArray)) ++ a0_1) ++ (⟨#[32]⟩ : ByteArray)) ++ (⟨#[72, 84, 84, 80, 47, 49, 46, 49]⟩ : ByteArray)) ++ (⟨#[13, 10]⟩ : ByteArray)).size + t740.size ≤ 9223372036854775807 then (if a0_3.toList = ([] : List UInt8) then (if ((((((t739 ++ (⟨#[32]⟩ : ByteArray)) ++ a0_1) ++ (⟨#[32]⟩ : ByteArray)) ++ (⟨#[72, 84, 84, 80, 47, 49, 46, 49]⟩ : ByteArray)) ++ (⟨#[13, 10]⟩ : ByteArray)) ++ t740).size + 2 ≤ 9223372036854775807 then (if (((((((t739 ++ (⟨#[32]⟩ : ByteArray)) ++ a0_1) ++ (⟨#[32]⟩ : ByteArray)) ++ (⟨#[72, 84, 84, 80, 47, 49, 46, 49]⟩ : ByteArray)) ++ (⟨#[13, 10]⟩ : ByteArray)) ++ t740) ++ (⟨#[13, 10]⟩ : ByteArray)).size + a0_3.size ≤ 9223372036854775807 then (some ((((((((t739 ++ (⟨#[32]⟩ : ByteArray)) ++ a0_1) ++ (⟨#[32]⟩ : ByteArray)) ++ (⟨#[72, 84, 84, 80, 47, 49, 46, 49]⟩ : ByteArray)) ++ (⟨#[13, 10]⟩ : ByteArray)) ++ t740) ++ (⟨#[13, 10]⟩ : ByteArray)) ++ a0_3)) else (none)) else (none)) else ((impl_lengthLine.f a0_3).bind fun t741 => (if ((((((t739 ++ (⟨#[32]⟩ : ByteArray)) ++ a0_1) ++ (⟨#[32]⟩ : ByteArray)) ++ (⟨#[72, 84, 84, 80, 47, 49, 46, 49]⟩ : ByteArray)) ++ (⟨#[13, 10]⟩ : ByteArray)) ++ t740).size + t741.size ≤ 9223372036854775807 then (if (((((((t739 ++ (⟨#[32]⟩ : ByteArray)) ++ a0_1) ++ (⟨#[32]⟩ : ByteArray)) ++ (⟨#[72, 84, 84, 80, 47, 49, 46, 49]⟩ : ByteArray)) ++ (⟨#[13, 10]⟩ : ByteArray)) ++ t740) ++ t741).size + 2 ≤ 9223372036854775807 then (if ((((((((t739 ++ (⟨#[32]⟩ : ByteArray)) ++ a0_1) ++ (⟨#[32]⟩ : ByteArray)) ++ (⟨#[72, 84, 84, 80, 47, 49, 46, 49]⟩ : ByteArray)) ++ (⟨#[13, 10]⟩ : ByteArray)) ++ t740) ++ t741) ++ (⟨#[13, 10]⟩ : ByteArray)).size + a0_3.size ≤ 9223372036854775807 then (some (((((((((t739 ++ (⟨#[32]⟩ : ByteArray)) ++ a0_1) ++ (⟨#[32]⟩ : ByteArray)) ++ (⟨#[72, 84, 84, 80, 47, 49, 46, 49]⟩ : ByteArray)) ++ (⟨#[13, 10]⟩ : ByteArray)) ++ t740) ++ t741) ++ (⟨#[13, 10]⟩ : ByteArray)) ++ a0_3)) else (none)) else (none)) else (none)))) else (none))) else (none)) else (none)) else (none)) else (none)) else (none))) else (some (⟨#[]⟩ : ByteArray)))
theorem impl_ReqText.mono : ∀ a0 a1 a2 a3 k, LeO (impl_ReqText.f k a0 a1 a2 a3) (impl_ReqText.f (k + 1) a0 a1 a2 a3) := by
 intro a0 a1 a2 a3 k
 unfold impl_ReqText.f
 have m0 := @impl_ReqOk.mono
 exact mo
def impl_ReqText.T3 : Bool × List (List Nat × List Nat) := (true, [([], []), ([0], [0]), ([1], [1]), ([2], [2]), ([], []), ([4], [4]), ([3, 5], [3, 5]), ([6], [6]), ([7], [7]), ([8], [8]), ([], []), ([10], [10]), ([11, 2], [11]), ([9, 12], [9, 12]), ([13, 12, 0, 1, 2, 3, 4, 5, 6, 7, 8, 9, 10, 11, 12, 13], [13])])
def impl_ReqText.B3 : List Nat := [0, 1, 3, 7, 0, 16, 63, 127, 255, 511, 0, 1024, 3079, 8191, 16383]
theorem impl_ReqText.tab3 : rtab .any (opsOf Tryd.f25 3) = impl_ReqText.T3 := by kernel_rfl
theorem impl_ReqText.bits3 : waitsOk impl_ReqText.T3.2 impl_ReqText.B3 = true := by kernel_rfl
set_option maxHeartbeats 8000000 in
set_option maxRecDepth 100000 in
theorem impl_ReqText.calls (k : Nat) (a0_0 : Int) (a0_1 : ByteArray) (A0_2 : Option Addr) (c0_2 : Nat) (l0_2 : List (S84)) (a0_3 : ByteArray) (r : ByteArray) (w : World) (hGT : GLOBT w) (hr0_2 : Kd.C k84 w A0_2 l0_2.length l0_2) (hc0_2 : l0_2.length ≤ c0_2) (h : impl_ReqText.f k a0_0 a0_1 l0_2 a0_3 = some r) :
  Calls Tryd.prog 25 #[.agg #[.int .i64 a0_0, .string a0_1, .slice A0_2 l0_2.length c0_2, .string a0_3]] w fun e w' => e = .returned (.string r) ∧ Below w.heap.size w w' := by
 have hu26 := Tryd.underlying26
 have HR0_2 := am hr0_2
 have HC0_2 := am hc0_2
 clear hr0_2 hc0_2
 have HGT := am hGT
 clear hGT
 have HB := am (Below.refl w.heap.size w)
 unfold impl_ReqText.f at h
 have H := h
 clear h
 revert H
 refine ok1 fun t738 A2 H => ?_
 by_cases c3 : t738 = true
 rotate_left
 ·replace c3 := Bool.eq_false_iff.mpr c3
  subst c3
  rw [if_neg (show ¬ (false = true) by decide)] at H
  obtain rfl := Option.some.inj H
  go_enter Tryd.func25, Tryd.ntmps25
  go_wp2_with (first | (refine bx 1 #[.int .i64 a0_0, .string a0_1, .slice A0_2 l0_2.length c0_2, .string a0_3] 26 ?_; intro gb737 hg w35 hbox hb; have BK737 := am (hbox); have GW737 := am (sz hg : w.heap.size ≤ gb737); have GE737 := am (sz hg : w.heap.size ≤ gb737); replace HB := am (below_step bl hb); clear hb hbox hg; obtain ⟨z36_0, y36_0, z36_1, y36_1, z36_2, y36_2, z36_3, y36_3⟩ := cl4 BK737) | (refine gl 5 Tryd.func21 #[.agg #[.int .i64 a0_0, .string a0_1, .slice A0_2 l0_2.length c0_2, .string a0_3]] ?_; (with_reducible refine (impl_ReqOk.calls k a0_0 a0_1 _ _ l0_2 a0_3 false _ ?side1 ?side2 A2.out).mono ?_); (case side1 => exact cb HR0_2); (case side2 => exact HC0_2.out); rintro e w37 ⟨rfl, hb⟩; refine ⟨_, rfl, ?_⟩; replace BK737 := kb BK737 hb; replace HB := am (below_step bl hb); clear hb))
  go_ret
  exact ⟨rf, bl⟩
 subst c3
 rw [if_pos rfl] at H
 revert H
 refine ok1 fun t739 A4 H => ?_
 revert H
 refine ifn fun c5 H => ?_
 have c5b0 := eq_true c5
 have c5b1 := decide_eq_true c5
 try have c5b2 := eq_false (Nat.not_lt.2 c5)
 revert H
 refine ifn fun c6 H => ?_
 have c6b0 := eq_true c6
 have c6b1 := decide_eq_true c6
 try have c6b2 := eq_false (Nat.not_lt.2 c6)
 have c6b3 : (9223372036854775807 < (t739).size + 1 + (a0_1).size) = False := b3 c6
 revert H
 refine ifn fun c7 H => ?_
 have c7b0 := eq_true c7
 have c7b1 := decide_eq_true c7
 try have c7b2 := eq_false (Nat.not_lt.2 c7)
 have c7b3 : (9223372036854775807 < (t739).size + 1 + (a0_1).size + 1) = False := b3 c7
 revert H
 refine ifn fun c8 H => ?_
 have c8b0 := eq_true c8
 have c8b1 := decide_eq_true c8
 try have c8b2 := eq_false (Nat.not_lt.2 c8)
 have c8b3 : (9223372036854775807 < (t739).size + 1 + (a0_1).size + 1 + 8) = False := b3 c8
 revert H
 refine ifn fun c9 H => ?_
 have c9b0 := eq_true c9
 have c9b1 := decide_eq_true c9
 try have c9b2 := eq_false (Nat.not_lt.2 c9)
 have c9b3 : (9223372036854775807 < (t739).size + 1 + (a0_1).size + 1 + 8 + 2) = False := b3 c9
 revert H
 refine ok1 fun t740 A10 H => ?_
 revert H
 refine ifn fun c11 H => ?_
 have c11b0 := eq_true c11
 have c11b1 := decide_eq_true c11
 try have c11b2 := eq_false (Nat.not_lt.2 c11)
 have c11b3 : (9223372036854775807 < (t739).size + 1 + (a0_1).size + 1 + 8 + 2 + (t740).size) = False := b3 c11
 by_cases c12 : a0_3.toList = ([] : List UInt8)
 ·rw [if_pos c12] at H
  have c12b0 : (a0_3.toList == ([] : List UInt8)) = true := beq_iff_eq.mpr c12
  have c12b1 : (a0_3.toList != ([] : List UInt8)) = false := bne_eq_false_iff_eq.mpr c12
  clear c12
  revert H
  refine ifn fun c13 H => ?_
  have c13b0 := eq_true c13
  have c13b1 := decide_eq_true c13
  try have c13b2 := eq_false (Nat.not_lt.2 c13)
  have c13b3 : (9223372036854775807 < (t739).size + 1 + (a0_1).size + 1 + 8 + 2 + (t740).size + 2) = False := b3 c13
  revert H
  refine ifn fun c14 H => ?_
  have c14b0 := eq_true c14
  have c14b1 := decide_eq_true c14
  try have c14b2 := eq_false (Nat.not_lt.2 c14)
  have c14b3 : (9223372036854775807 < (t739).size + 1 + (a0_1).size + 1 + 8 + 2 + (t740).size + 2 + (a0_3).size) = False := b3 c14
  obtain rfl := Option.some.inj H
  go_enter Tryd.func25, Tryd.ntmps25
  try go_wp2_with (first | (refine bx 1 #[.int .i64 a0_0, .string a0_1, .slice A0_2 l0_2.length c0_2, .string a0_3] 26 ?_; intro gb737 hg w15 hbox hb; have BK737 := am (hbox); have GW737 := am (sz hg : w.heap.size ≤ gb737); have GE737 := am (sz hg : w.heap.size ≤ gb737); replace HB := am (below_step bl hb); clear hb hbox hg; obtain ⟨z16_0, y16_0, z16_1, y16_1, z16_2, y16_2, z16_3, y16_3⟩ := cl4 BK737) | (refine gl 5 Tryd.func21 #[.agg #[.int .i64 a0_0, .string a0_1, .slice A0_2 l0_2.length c0_2, .string a0_3]] ?_; (with_reducible refine (impl_ReqOk.calls k a0_0 a0_1 _ _ l0_2 a0_3 true _ ?side1 ?side2 A2.out).mono ?_); (case side1 => exact cb HR0_2); (case side2 => exact HC0_2.out); rintro e w17 ⟨rfl, hb⟩; refine ⟨_, rfl, ?_⟩; replace BK737 := kb BK737 hb; replace HB := am (below_step bl hb); clear hb))
  replace BK737 := am (blk_drew BK737.out)
  replace HB := am (below_drew1 HB.out)
  refine start_ (n := 15) (S := fun w' => w'.cell? ⟨gb737, 0, none⟩ = some (.int .i64 a0_0) ∧ w'.cell? ⟨gb737, 1, none⟩ = some (.string a0_1) ∧ w'.cell? ⟨gb737, 2, none⟩ = some (.slice A0_2 l0_2.length c0_2) ∧ w'.cell? ⟨gb737, 3, none⟩ = some (.string a0_3)) (ds := []) ⟨br true [0, 15]⟩ (by kernel_rfl) rfl (by kernel_rfl) ⟨bc BK737, bc BK737, bc BK737, bc BK737⟩ (fun hHeld => ?_); refine with_tabW impl_ReqText.tab3 impl_ReqText.bits3 (fun HT_ HW_ => ?_)
  generalize w17.drew = w18 at BK737 HB hHeld ⊢
  refine pu 0 7 [1, 14] ?_
  refine pu 4 11 [1, 3, 1, 10] ?_
  refine pu 10 17 [1, 3, 1, 5, 1, 4] ?_
  refine tk 1 8 [2, 2, 1, 5, 1, 4] ?_
  refine tk 5 12 [2, 2, 2, 4, 1, 4] ?_
  refine tk 11 18 [2, 2, 2, 4, 2, 3] ?_
  refine og 2 9 [3, 1, 2, 4, 2, 3] Tryd.func65 #[.int .i64 a0_0] (fun K hK => ?_)
  with_reducible refine (impl_methodText.calls a0_0 t739 _ A4.out).mono ?_
  rintro e w19 ⟨rfl, hb⟩
  refine ⟨_, rfl, ?_⟩
  replace BK737 := kb BK737 hb
  replace HB := am (below_step bl hb)
  clear hb
  refine hK.out _ _ ⟨bc BK737, bc BK737, bc BK737, bc BK737⟩ (fun hHeld => ?_)
  clear hK K
  refine nm 9 ?_
  refine pu 3 10 [6, 4, 2, 3] ?_
  refine pu 6 13 [7, 3, 2, 3] ?_
  refine pu 7 14 [8, 2, 2, 3] ?_
  refine pu 8 15 [9, 1, 2, 3] ?_
  refine pu 9 16 [12, 3] ?_
  refine og 12 19 [13, 2] Tryd.func66 #[.slice A0_2 l0_2.length c0_2] (fun K hK => ?_)
  with_reducible refine (impl_FieldsText.calls _ _ l0_2 t740 _ ?side1 ?side2 A10.out).mono ?_
  (case side1 => exact cb HR0_2)
  (case side2 => exact HC0_2.out)
  rintro e w20 ⟨rfl, hb⟩
  refine ⟨_, rfl, ?_⟩
  replace BK737 := kb BK737 hb
  replace HB := am (below_step bl hb)
  clear hb
  refine hK.out _ _ ⟨bc BK737, bc BK737, bc BK737, bc BK737⟩ (fun hHeld => ?_)
  clear hK K
  refine nm 19 ?_
  refine pu 13 20 [14, 1] ?_
  refine pu 14 3 [15] ?_
  refine done_ (done_of HT_.out (by kernel_rfl)) ?_
  obtain ⟨z21_0, y21_0, z21_1, y21_1, z21_2, y21_2, z21_3, y21_3⟩ := cl4 BK737
  try go_wp2
  go_ret
  exact ⟨rf, bl⟩
 rw [if_neg c12] at H
 have c12b0 : (a0_3.toList == ([] : List UInt8)) = false := beq_eq_false_iff_ne.mpr c12
 have c12b1 : (a0_3.toList != ([] : List UInt8)) = true := bne_iff_ne.mpr c12
 revert H
 refine ok1 fun t741 A22 H => ?_
 revert H
 refine ifn fun c23 H => ?_
 have c23b0 := eq_true c23
 have c23b1 := decide_eq_true c23
 try have c23b2 := eq_false (Nat.not_lt.2 c23)
 have c23b3 : (9223372036854775807 < (t739).size + 1 + (a0_1).size + 1 + 8 + 2 + (t740).size + (t741).size) = False := b3 c23
 revert H
 refine ifn fun c24 H => ?_
 have c24b0 := eq_true c24
 have c24b1 := decide_eq_true c24
 try have c24b2 := eq_false (Nat.not_lt.2 c24)
 have c24b3 : (9223372036854775807 < (t739).size + 1 + (a0_1).size + 1 + 8 + 2 + (t740).size + (t741).size + 2) = False := b3 c24
 revert H
 refine ifn fun c25 H => ?_
 have c25b0 := eq_true c25
 have c25b1 := decide_eq_true c25
 try have c25b2 := eq_false (Nat.not_lt.2 c25)
 have c25b3 : (9223372036854775807 < (t739).size + 1 + (a0_1).size + 1 + 8 + 2 + (t740).size + (t741).size + 2 + (a0_3).size) = False := b3 c25
 obtain rfl := Option.some.inj H
 go_enter Tryd.func25, Tryd.ntmps25
 try go_wp2_with (first | (refine bx 1 #[.int .i64 a0_0, .string a0_1, .slice A0_2 l0_2.length c0_2, .string a0_3] 26 ?_; intro gb737 hg w26 hbox hb; have BK737 := am (hbox); have GW737 := am (sz hg : w.heap.size ≤ gb737); have GE737 := am (sz hg : w.heap.size ≤ gb737); replace HB := am (below_step bl hb); clear hb hbox hg; obtain ⟨z27_0, y27_0, z27_1, y27_1, z27_2, y27_2, z27_3, y27_3⟩ := cl4 BK737) | (refine gl 5 Tryd.func21 #[.agg #[.int .i64 a0_0, .string a0_1, .slice A0_2 l0_2.length c0_2, .string a0_3]] ?_; (with_reducible refine (impl_ReqOk.calls k a0_0 a0_1 _ _ l0_2 a0_3 true _ ?side1 ?side2 A2.out).mono ?_); (case side1 => exact cb HR0_2); (case side2 => exact HC0_2.out); rintro e w28 ⟨rfl, hb⟩; refine ⟨_, rfl, ?_⟩; replace BK737 := kb BK737 hb; replace HB := am (below_step bl hb); clear hb))
 replace BK737 := am (blk_drew BK737.out)
 replace HB := am (below_drew1 HB.out)
 refine start_ (n := 15) (S := fun w' => w'.cell? ⟨gb737, 0, none⟩ = some (.int .i64 a0_0) ∧ w'.cell? ⟨gb737, 1, none⟩ = some (.string a0_1) ∧ w'.cell? ⟨gb737, 2, none⟩ = some (.slice A0_2 l0_2.length c0_2) ∧ w'.cell? ⟨gb737, 3, none⟩ = some (.string a0_3)) (ds := []) ⟨br true [0, 15]⟩ (by kernel_rfl) rfl (by kernel_rfl) ⟨bc BK737, bc BK737, bc BK737, bc BK737⟩ (fun hHeld => ?_); refine with_tabW impl_ReqText.tab3 impl_ReqText.bits3 (fun HT_ HW_ => ?_)
 generalize w28.drew = w29 at BK737 HB hHeld ⊢
 refine pu 0 7 [1, 14] ?_
 refine pu 4 11 [1, 3, 1, 10] ?_
 refine pu 10 17 [1, 3, 1, 5, 1, 4] ?_
 refine tk 1 8 [2, 2, 1, 5, 1, 4] ?_
 refine tk 5 12 [2, 2, 2, 4, 1, 4] ?_
 refine tk 11 18 [2, 2, 2, 4, 2, 3] ?_
 refine og 2 9 [3, 1, 2, 4, 2, 3] Tryd.func65 #[.int .i64 a0_0] (fun K hK => ?_)
 with_reducible refine (impl_methodText.calls a0_0 t739 _ A4.out).mono ?_
 rintro e w30 ⟨rfl, hb⟩
 refine ⟨_, rfl, ?_⟩
 replace BK737 := kb BK737 hb
 replace HB := am (below_step bl hb)
 clear hb
 refine hK.out _ _ ⟨bc BK737, bc BK737, bc BK737, bc BK737⟩ (fun hHeld => ?_)
 clear hK K
 refine nm 9 ?_
 refine pu 3 10 [6, 4, 2, 3] ?_
 refine pu 6 13 [7, 3, 2, 3] ?_
 refine pu 7 14 [8, 2, 2, 3] ?_
 refine pu 8 15 [9, 1, 2, 3] ?_
 refine pu 9 16 [12, 3] ?_
 refine og 12 19 [13, 2] Tryd.func66 #[.slice A0_2 l0_2.length c0_2] (fun K hK => ?_)
 with_reducible refine (impl_FieldsText.calls _ _ l0_2 t740 _ ?side1 ?side2 A10.out).mono ?_
 (case side1 => exact cb HR0_2)
 (case side2 => exact HC0_2.out)
 rintro e w31 ⟨rfl, hb⟩
 refine ⟨_, rfl, ?_⟩
 replace BK737 := kb BK737 hb
 replace HB := am (below_step bl hb)
 clear hb
 refine hK.out _ _ ⟨bc BK737, bc BK737, bc BK737, bc BK737⟩ (fun hHeld => ?_)
 clear hK K
 refine nm 19 ?_
 refine pu 13 20 [14, 1] ?_
 refine pu 14 3 [15] ?_
 refine done_ (done_of HT_.out (by kernel_rfl)) ?_
 obtain ⟨z32_0, y32_0, z32_1, y32_1, z32_2, y32_2, z32_3, y32_3⟩ := cl4 BK737
 try go_wp2_with (first | (refine gl 27 Tryd.func67 #[.string a0_3] ?_; (with_reducible refine (impl_lengthLine.calls a0_3 t741 _ ?side1 A22.out).mono ?_); (case side1 => exact GLOBT.below HGT.out bl); rintro e w33 ⟨rfl, hb⟩; refine ⟨_, rfl, ?_⟩; replace BK737 := kb BK737 hb; replace HB := am (below_step bl hb); clear hb; obtain ⟨z34_0, y34_0, z34_1, y34_1, z34_2, y34_2, z34_3, y34_3⟩ := cl4 BK737))
 go_ret
 exact ⟨rf, bl⟩

/-! ### laws_eqReq: function 26 -/
def laws_eqReq.f (k : Nat) (a0_0 : Int) (a0_1 : ByteArray) (l0_2 : List (S84)) (a0_3 : ByteArray) (a1_0 : Int) (a1_1 : ByteArray) (l1_2 : List (S84)) (a1_3 : ByteArray) : Option (Bool) := if a0_0 = a1_0 then (if a0_1.toList = a1_1.toList then ((laws_eqFieldS.f k l0_2 l1_2).bind fun t749 => (if t749 = true then (if a0_3.toList = a1_3.toList then (some true) else (some false)) else (some false))) else (some false)) else (some false)
theorem laws_eqReq.mono : ∀ a0 a1 a2 a3 a4 a5 a6 a7 k, LeO (laws_eqReq.f k a0 a1 a2 a3 a4 a5 a6 a7) (laws_eqReq.f (k + 1) a0 a1 a2 a3 a4 a5 a6 a7) := by
 intro a0 a1 a2 a3 a4 a5 a6 a7 k
 unfold laws_eqReq.f
 have m0 := @laws_eqFieldS.mono
 exact mo
set_option maxHeartbeats 8000000 in
set_option maxRecDepth 100000 in
theorem laws_eqReq.calls (k : Nat) (a0_0 : Int) (a0_1 : ByteArray) (A0_2 : Option Addr) (c0_2 : Nat) (l0_2 : List (S84)) (a0_3 : ByteArray) (a1_0 : Int) (a1_1 : ByteArray) (A1_2 : Option Addr) (c1_2 : Nat) (l1_2 : List (S84)) (a1_3 : ByteArray) (r : Bool) (w : World) (hr0_2 : Kd.C k84 w A0_2 l0_2.length l0_2) (hc0_2 : l0_2.length ≤ c0_2) (hr1_2 : Kd.C k84 w A1_2 l1_2.length l1_2) (hc1_2 : l1_2.length ≤ c1_2) (h : laws_eqReq.f k a0_0 a0_1 l0_2 a0_3 a1_0 a1_1 l1_2 a1_3 = some r) :
  Calls Tryd.prog 26 #[.agg #[.int .i64 a0_0, .string a0_1, .slice A0_2 l0_2.length c0_2, .string a0_3], .agg #[.int .i64 a1_0, .string a1_1, .slice A1_2 l1_2.length c1_2, .string a1_3]] w fun e w' => e = .returned (.bool r) ∧ Below w.heap.size w w' := by
 have hu26 := Tryd.underlying26
 have HR0_2 := am hr0_2
 have HC0_2 := am hc0_2
 clear hr0_2 hc0_2
 have HR1_2 := am hr1_2
 have HC1_2 := am hc1_2
 clear hr1_2 hc1_2
 have HB := am (Below.refl w.heap.size w)
 unfold laws_eqReq.f at h
 have H := h
 clear h
 by_cases c3 : a0_0 = a1_0
 rotate_left
 ·rw [if_neg c3] at H
  have c3b0 : (a0_0 == a1_0) = false := beq_eq_false_iff_ne.mpr c3
  have c3b1 : (a0_0 != a1_0) = true := bne_iff_ne.mpr c3
  obtain rfl := Option.some.inj H
  go_enter Tryd.func26, Tryd.ntmps26
  go_wp2_with (first | (refine bx 2 #[.int .i64 a0_0, .string a0_1, .slice A0_2 l0_2.length c0_2, .string a0_3] 26 ?_; intro gb747 hg w35 hbox hb; have BK747 := am (hbox); have GW747 := am (sz hg : w.heap.size ≤ gb747); have GE747 := am (sz hg : w.heap.size ≤ gb747); replace HB := am (below_step bl hb); clear hb hbox hg) | (refine bx 3 #[.int .i64 a1_0, .string a1_1, .slice A1_2 l1_2.length c1_2, .string a1_3] 26 ?_; intro gb748 hg w36 hbox hb; have BK748 := am (hbox); have GW748 := am (sz hg : w.heap.size ≤ gb748); have GE748 := am (sz hg : w.heap.size ≤ gb748); replace HB := am (below_step bl hb); have NB747_748 := am (nl hg BK747 : gb747 ≠ gb748); have NB748_747 := am (ng hg BK747 : gb748 ≠ gb747); replace BK747 := kb BK747 hb; clear hb hbox hg; have hnb37 := NB747_748.out; have hnc37 := NB748_747.out; obtain ⟨z38_0, y38_0, z38_1, y38_1, z38_2, y38_2, z38_3, y38_3⟩ := cl4 BK747; obtain ⟨z39_0, y39_0, z39_1, y39_1, z39_2, y39_2, z39_3, y39_3⟩ := cl4 BK748))
  go_ret
  exact ⟨rf, bl⟩
 rw [if_pos c3] at H
 have c3b0 : (a0_0 == a1_0) = true := beq_iff_eq.mpr c3
 have c3b1 : (a0_0 != a1_0) = false := bne_eq_false_iff_eq.mpr c3
 clear c3
 by_cases c4 : a0_1.toList = a1_1.toList
 rotate_left
 ·rw [if_neg c4] at H
  have c4b0 : (a0_1.toList == a1_1.toList) = false := beq_eq_false_iff_ne.mpr c4
  have c4b1 : (a0_1.toList != a1_1.toList) = true := bne_iff_ne.mpr c4
  obtain rfl := Option.some.inj H
  go_enter Tryd.func26, Tryd.ntmps26
  go_wp2_with (first | (refine bx 2 #[.int .i64 a0_0, .string a0_1, .slice A0_2 l0_2.length c0_2, .string a0_3] 26 ?_; intro gb747 hg w30 hbox hb; have BK747 := am (hbox); have GW747 := am (sz hg : w.heap.size ≤ gb747); have GE747 := am (sz hg : w.heap.size ≤ gb747); replace HB := am (below_step bl hb); clear hb hbox hg) | (refine bx 3 #[.int .i64 a1_0, .string a1_1, .slice A1_2 l1_2.length c1_2, .string a1_3] 26 ?_; intro gb748 hg w31 hbox hb; have BK748 := am (hbox); have GW748 := am (sz hg : w.heap.size ≤ gb748); have GE748 := am (sz hg : w.heap.size ≤ gb748); replace HB := am (below_step bl hb); have NB747_748 := am (nl hg BK747 : gb747 ≠ gb748); have NB748_747 := am (ng hg BK747 : gb748 ≠ gb747); replace BK747 := kb BK747 hb; clear hb hbox hg; have hnb32 := NB747_748.out; have hnc32 := NB748_747.out; obtain ⟨z33_0, y33_0, z33_1, y33_1, z33_2, y33_2, z33_3, y33_3⟩ := cl4 BK747; obtain ⟨z34_0, y34_0, z34_1, y34_1, z34_2, y34_2, z34_3, y34_3⟩ := cl4 BK748))
  go_ret
  exact ⟨rf, bl⟩
 rw [if_pos c4] at H
 have c4b0 : (a0_1.toList == a1_1.toList) = true := beq_iff_eq.mpr c4
 have c4b1 : (a0_1.toList != a1_1.toList) = false := bne_eq_false_iff_eq.mpr c4
 clear c4
 revert H
 refine ok1 fun t749 A5 H => ?_
 by_cases c6 : t749 = true
 rotate_left
 ·replace c6 := Bool.eq_false_iff.mpr c6
  subst c6
  rw [if_neg (show ¬ (false = true) by decide)] at H
  obtain rfl := Option.some.inj H
  go_enter Tryd.func26, Tryd.ntmps26
  go_wp2_with (first | (refine bx 2 #[.int .i64 a0_0, .string a0_1, .slice A0_2 l0_2.length c0_2, .string a0_3] 26 ?_; intro gb747 hg w24 hbox hb; have BK747 := am (hbox); have GW747 := am (sz hg : w.heap.size ≤ gb747); have GE747 := am (sz hg : w.heap.size ≤ gb747); replace HB := am (below_step bl hb); clear hb hbox hg) | (refine bx 3 #[.int .i64 a1_0, .string a1_1, .slice A1_2 l1_2.length c1_2, .string a1_3] 26 ?_; intro gb748 hg w25 hbox hb; have BK748 := am (hbox); have GW748 := am (sz hg : w.heap.size ≤ gb748); have GE748 := am (sz hg : w.heap.size ≤ gb748); replace HB := am (below_step bl hb); have NB747_748 := am (nl hg BK747 : gb747 ≠ gb748); have NB748_747 := am (ng hg BK747 : gb748 ≠ gb747); replace BK747 := kb BK747 hb; clear hb hbox hg; have hnb26 := NB747_748.out; have hnc26 := NB748_747.out; obtain ⟨z27_0, y27_0, z27_1, y27_1, z27_2, y27_2, z27_3, y27_3⟩ := cl4 BK747; obtain ⟨z28_0, y28_0, z28_1, y28_1, z28_2, y28_2, z28_3, y28_3⟩ := cl4 BK748) | (refine gl 19 Tryd.func46 #[.slice A0_2 l0_2.length c0_2, .slice A1_2 l1_2.length c1_2] ?_; (with_reducible refine (laws_eqFieldS.calls k _ _ l0_2 _ _ l1_2 false _ ?side1 ?side2 ?side3 ?side4 A5.out).mono ?_); (case side1 => exact cb HR0_2); (case side2 => exact HC0_2.out); (case side3 => exact cb HR1_2); (case side4 => exact HC1_2.out); rintro e w29 ⟨rfl, hb⟩; refine ⟨_, rfl, ?_⟩; replace BK747 := kb BK747 hb; replace BK748 := kb BK748 hb; replace HB := am (below_step bl hb); clear hb))
  go_ret
  exact ⟨rf, bl⟩
 subst c6
 rw [if_pos rfl] at H
 by_cases c7 : a0_3.toList = a1_3.toList
 rotate_left
 ·rw [if_neg c7] at H
  have c7b0 : (a0_3.toList == a1_3.toList) = false := beq_eq_false_iff_ne.mpr c7
  have c7b1 : (a0_3.toList != a1_3.toList) = true := bne_iff_ne.mpr c7
  obtain rfl := Option.some.inj H
  go_enter Tryd.func26, Tryd.ntmps26
  go_wp2_with (first | (refine bx 2 #[.int .i64 a0_0, .string a0_1, .slice A0_2 l0_2.length c0_2, .string a0_3] 26 ?_; intro gb747 hg w16 hbox hb; have BK747 := am (hbox); have GW747 := am (sz hg : w.heap.size ≤ gb747); have GE747 := am (sz hg : w.heap.size ≤ gb747); replace HB := am (below_step bl hb); clear hb hbox hg) | (refine bx 3 #[.int .i64 a1_0, .string a1_1, .slice A1_2 l1_2.length c1_2, .string a1_3] 26 ?_; intro gb748 hg w17 hbox hb; have BK748 := am (hbox); have GW748 := am (sz hg : w.heap.size ≤ gb748); have GE748 := am (sz hg : w.heap.size ≤ gb748); replace HB := am (below_step bl hb); have NB747_748 := am (nl hg BK747 : gb747 ≠ gb748); have NB748_747 := am (ng hg BK747 : gb748 ≠ gb747); replace BK747 := kb BK747 hb; clear hb hbox hg; have hnb18 := NB747_748.out; have hnc18 := NB748_747.out; obtain ⟨z19_0, y19_0, z19_1, y19_1, z19_2, y19_2, z19_3, y19_3⟩ := cl4 BK747; obtain ⟨z20_0, y20_0, z20_1, y20_1, z20_2, y20_2, z20_3, y20_3⟩ := cl4 BK748) | (refine gl 19 Tryd.func46 #[.slice A0_2 l0_2.length c0_2, .slice A1_2 l1_2.length c1_2] ?_; (with_reducible refine (laws_eqFieldS.calls k _ _ l0_2 _ _ l1_2 true _ ?side1 ?side2 ?side3 ?side4 A5.out).mono ?_); (case side1 => exact cb HR0_2); (case side2 => exact HC0_2.out); (case side3 => exact cb HR1_2); (case side4 => exact HC1_2.out); rintro e w21 ⟨rfl, hb⟩; refine ⟨_, rfl, ?_⟩; replace BK747 := kb BK747 hb; replace BK748 := kb BK748 hb; replace HB := am (below_step bl hb); clear hb; obtain ⟨z22_0, y22_0, z22_1, y22_1, z22_2, y22_2, z22_3, y22_3⟩ := cl4 BK747; obtain ⟨z23_0, y23_0, z23_1, y23_1, z23_2, y23_2, z23_3, y23_3⟩ := cl4 BK748))
  go_ret
  exact ⟨rf, bl⟩
 rw [if_pos c7] at H
 have c7b0 : (a0_3.toList == a1_3.toList) = true := beq_iff_eq.mpr c7
 have c7b1 : (a0_3.toList != a1_3.toList) = false := bne_eq_false_iff_eq.mpr c7
 clear c7
 obtain rfl := Option.some.inj H
 go_enter Tryd.func26, Tryd.ntmps26
 go_wp2_with (first | (refine bx 2 #[.int .i64 a0_0, .string a0_1, .slice A0_2 l0_2.length c0_2, .string a0_3] 26 ?_; intro gb747 hg w8 hbox hb; have BK747 := am (hbox); have GW747 := am (sz hg : w.heap.size ≤ gb747); have GE747 := am (sz hg : w.heap.size ≤ gb747); replace HB := am (below_step bl hb); clear hb hbox hg) | (refine bx 3 #[.int .i64 a1_0, .string a1_1, .slice A1_2 l1_2.length c1_2, .string a1_3] 26 ?_; intro gb748 hg w9 hbox hb; have BK748 := am (hbox); have GW748 := am (sz hg : w.heap.size ≤ gb748); have GE748 := am (sz hg : w.heap.size ≤ gb748); replace HB := am (below_step bl hb); have NB747_748 := am (nl hg BK747 : gb747 ≠ gb748); have NB748_747 := am (ng hg BK747 : gb748 ≠ gb747); replace BK747 := kb BK747 hb; clear hb hbox hg; have hnb10 := NB747_748.out; have hnc10 := NB748_747.out; obtain ⟨z11_0, y11_0, z11_1, y11_1, z11_2, y11_2, z11_3, y11_3⟩ := cl4 BK747; obtain ⟨z12_0, y12_0, z12_1, y12_1, z12_2, y12_2, z12_3, y12_3⟩ := cl4 BK748) | (refine gl 19 Tryd.func46 #[.slice A0_2 l0_2.length c0_2, .slice A1_2 l1_2.length c1_2] ?_; (with_reducible refine (laws_eqFieldS.calls k _ _ l0_2 _ _ l1_2 true _ ?side1 ?side2 ?side3 ?side4 A5.out).mono ?_); (case side1 => exact cb HR0_2); (case side2 => exact HC0_2.out); (case side3 => exact cb HR1_2); (case side4 => exact HC1_2.out); rintro e w13 ⟨rfl, hb⟩; refine ⟨_, rfl, ?_⟩; replace BK747 := kb BK747 hb; replace BK748 := kb BK748 hb; replace HB := am (below_step bl hb); clear hb; obtain ⟨z14_0, y14_0, z14_1, y14_1, z14_2, y14_2, z14_3, y14_3⟩ := cl4 BK747; obtain ⟨z15_0, y15_0, z15_1, y15_1, z15_2, y15_2, z15_3, y15_3⟩ := cl4 BK748))
 go_ret
 exact ⟨rf, bl⟩

end Go.Proofs.YtkgdcfaogdmcgaaDoor.All
