-- Written by a program of this session (wip/tools/hprint.py) out of the translation. Lean checks it.
import Derived.Test.YtiinmfjbildclaaDoorAllx0
import Derived.Test.YtiinmfjbildclaaDoorAllx7
import Derived.Test.YtiinmfjbildclaaDoorAllx12
import Derived.Test.YtiinmfjbildclaaDoorAllx21
import Derived.Test.YtiinmfjbildclaaDoorAllx22
import Derived.Test.YtiinmfjbildclaaDoorAllx35
import Derived.Test.YtiinmfjbildclaaDoorAllx39
namespace Go.Proofs.YtiinmfjbildclaaDoor.All
open Go.RowKit Go.Proofs.YtiinmfjbildclaaDoorW.PrintWords Go.Proofs.YtiinmfjbildclaaDoorW.PrintLast Go.Proofs.YtiinmfjbildclaaDoorW.PrintMore
attribute [local go_sem] max2_int min2_int max_two min_two max_three min_three max_four min_four   -- for this text's walks alone
set_option linter.unusedVariables false
set_option linter.unusedSimpArgs false

/-! ### laws_toStringS: function 141 -/
def laws_toStringS.l0 : Nat → List ByteArray → List ByteArray → Int → Option (List ByteArray)
 | 0, _, _, _ => none
 | k + 1, x0, x3, x4 => if x4 < (x0.length : Int) then (if 0 ≤ x4 then (if x4 < (x3.length : Int) then (laws_toStringS.l0 k x0 (x3.set (x4 : Int).toNat (rdOf ByteArray.empty x0 x4)) (wrap64 (x4 + 1))) else (none)) else (none)) else (some x3)
def laws_toStringS.f (k : Nat) (l0 : List ByteArray) : Option (List ByteArray) := if 0 ≤ (l0.length : Int) then (if ((l0.length : Int) : Int).toNat ≤ 17592186044416 then (laws_toStringS.l0 k l0 (List.replicate ((l0.length : Int) : Int).toNat (⟨#[]⟩ : ByteArray)) 0) else (none)) else (none)
theorem laws_toStringS.mono_l : ∀ k, (∀ y0 y1 y2, LeO (laws_toStringS.l0 k y0 y1 y2) (laws_toStringS.l0 (k + 1) y0 y1 y2))
 | 0 => fun _ _ _ r h => by simp [laws_toStringS.l0] at h
 | k + 1 => by
  have ih0 := laws_toStringS.mono_l k
  ·intro y0 y1 y2
   unfold laws_toStringS.l0
   repeat' first
   | (with_reducible exact ih0 _ _ _)
   | (with_reducible exact LeO.refl _)
   | (with_reducible exact LeO.none _)
   | (with_reducible refine LeO.ite ?_ ?_)
   | (with_reducible refine LeO.bind ?_ (fun _ => ?_))
   | exact ih0 _ _ _
   | exact LeO.none _
   | refine LeO.ite ?_ ?_
   | refine LeO.bind ?_ (fun _ => ?_)
theorem laws_toStringS.mono : ∀ a0 k, LeO (laws_toStringS.f k a0) (laws_toStringS.f (k + 1) a0) := by
 intro a0 k
 have ih0 := laws_toStringS.mono_l k
 unfold laws_toStringS.f
 repeat' first
   | (with_reducible exact ih0 _ _ _)
   | (with_reducible exact LeO.refl _)
   | (with_reducible exact LeO.none _)
   | (with_reducible refine LeO.ite ?_ ?_)
   | (with_reducible refine LeO.bind ?_ (fun _ => ?_))
   | exact ih0 _ _ _
   | exact LeO.none _
   | refine LeO.ite ?_ ?_
   | refine LeO.bind ?_ (fun _ => ?_)
set_option maxHeartbeats 8000000 in
set_option maxRecDepth 100000 in
theorem laws_toStringS.calls (k : Nat) (A0 : Option Addr) (c0 : Nat) (l0 : List ByteArray) (r : List ByteArray) (w : World) (hr0 : Kd.C Kd.string w A0 l0.length l0) (hc0 : l0.length ≤ c0) (h : laws_toStringS.f k l0 = some r) :
  Calls Tryd.prog 141 #[.slice A0 l0.length c0] w fun e w' => ∃ v0_ : Value, e = .returned (v0_) ∧ Kd.R Kd.string 9 w' w.heap.size (fun _ => True) v0_ r ∧ Below w.heap.size w w' := by
 have HR0 := am hr0
 have HC0 := am hc0
 clear hr0 hc0
 have HB := am (Below.refl w.heap.size w)
 have H : (if 0 ≤ (l0.length : Int) then (if ((l0.length : Int) : Int).toNat ≤ 17592186044416 then (laws_toStringS.l0 k l0 (List.replicate ((l0.length : Int) : Int).toNat (⟨#[]⟩ : ByteArray)) 0) else (none)) else (none)) = some r := h
 clear h
 by_cases c2 : 0 ≤ (l0.length : Int)
 ·rw [if_pos c2] at H
  have c2b0 := eq_true c2
  have c2b1 : decide (0 ≤ (l0.length : Int)) = true := decide_eq_true c2
  clear c2
  by_cases c3 : ((l0.length : Int) : Int).toNat ≤ 17592186044416
  ·rw [if_pos c3] at H
   have c3b0 := eq_true c3
   have c3b1 : decide (((l0.length : Int) : Int).toNat ≤ 17592186044416) = true := decide_eq_true c3
   clear c3
   obtain ⟨y1139, hy1139⟩ : ∃ y_ : List ByteArray, y_ = (List.replicate ((l0.length : Int) : Int).toNat (⟨#[]⟩ : ByteArray)) := ⟨_, rfl⟩
   replace H : (laws_toStringS.l0 k l0 y1139 0) = some r := by first | (rw [hy1139]; with_reducible exact H) | (have H2_ := (Option.bind_some _ _).symm.trans H; rw [hy1139]; with_reducible exact H2_) | (have H2_ := (Option.bind_some _ _).symm.trans H; with_reducible exact H2_) | with_reducible exact H | (rw [hy1139]; exact H) | exact H
   have Ny1139 := am hy1139
   clear hy1139
   have H' := am H
   clear H
   go_enter Tryd.func141, Tryd.ntmps141
   go_wp2_with (first | ((with_reducible refine gate_dst (N := 7) rfl ?_); refine Kd.R_make Kd.string _ 9 rfl (N := 7) rfl 24 _ _ rfl (l0.length : Int) rfl rfl Tryd.underlying24 (.string ⟨#[]⟩) 16 info9 rfl (by decide) (by omega) (⟨#[]⟩ : ByteArray) (ok := fun _ => True) (okp := fun _ => True) rfl (fun _ hk => hk) trivial (od) (Nat.le_trans (Nat.mul_le_mul_right _ (od : (l0.length : Int).toNat ≤ 17592186044416)) (by omega)) (Below.refl _ _) (Nat.le_refl _) ?_; intro v1140 w4 ho5 hb hg_ hnew_; clear hg_ hnew_; (first | rw [← Ny1139.out] at ho5 | (simp only [Int.reduceToNat] at ho5; rw [← Ny1139.out] at ho5)); have HO1141 := am (Kd.R_lower ho5 (below_size bl)); replace HB := am (below_step bl hb); clear hb ho5))
   (try simp only [Act.put, List.setIfInBounds_toArray, List.set_cons_zero, List.set_cons_succ])
   go_loopg [4] k (fun kq v4 w' => ∃ (x3_1 : List ByteArray) (x4_1 : Int), v4 = .int .i64 x4_1 ∧ Aside0 (laws_toStringS.l0 kq l0 x3_1 x4_1 = some r) ∧ Aside0 (kq ≤ k) ∧ Aside0 (Kd.R Kd.string 9 w' w.heap.size (fun _ => True) v1140 x3_1) ∧ Aside0 (Below w.heap.size w w'))
   case atStart => exact ⟨(y1139), (0), rs, H', ⟨Nat.le_refl _⟩, ⟨by (with_reducible repeat (first | apply Kd.R_alloc | apply Kd.R_drewN | apply Kd.R_drew)); exact HO1141.out⟩, ⟨by repeat (first | (with_reducible first | exact HB.out | apply below_alloc | apply pw_below_drewN | apply below_drew1) | exact HB.out)⟩⟩
   case round =>
    clear H'
    try clear c1
    try clear c2
    try clear c2b0
    try clear c2b1
    try clear p2
    try clear c3
    try clear c3b0
    try clear c3b1
    obtain ⟨x3_1, x4_1, rfl, HA, HK1, HO_3, HB⟩ := hrel
    cases gk with
    | zero => exact absurd HA.out (by simp [laws_toStringS.l0])
    | succ k1 =>
     have H := HA.out
     clear HA
     simp only [laws_toStringS.l0] at H
     by_cases c6 : x4_1 < (l0.length : Int)
     ·rw [if_pos c6] at H
      have c6b0 : decide (x4_1 < (l0.length : Int)) = true := decide_eq_true c6
      clear c6
      by_cases c7 : 0 ≤ x4_1
      ·rw [if_pos c7] at H
       have c7b0 : decide (0 ≤ x4_1) = true := decide_eq_true c7
       clear c7
       by_cases c8 : x4_1 < (x3_1.length : Int)
       ·rw [if_pos c8] at H
        have c8b0 : decide (x4_1 < (x3_1.length : Int)) = true := decide_eq_true c8
        clear c8
        obtain ⟨y1143, hy1143⟩ : ∃ y_ : List ByteArray, y_ = (x3_1.set (x4_1 : Int).toNat (rdOf ByteArray.empty l0 x4_1)) := ⟨_, rfl⟩
        replace H : (laws_toStringS.l0 k1 l0 y1143 (wrap64 (x4_1 + 1))) = some r := by first | (rw [hy1143]; with_reducible exact H) | (have H2_ := (Option.bind_some _ _).symm.trans H; rw [hy1143]; with_reducible exact H2_) | (have H2_ := (Option.bind_some _ _).symm.trans H; with_reducible exact H2_) | with_reducible exact H | (rw [hy1143]; exact H) | exact H
        have Ny1143 := am hy1143
        clear hy1143
        have H' := am H
        clear H
        have p1142 : 0 ≤ (x4_1 : Int) := od
        have q1142 : x4_1 < (l0.length : Int) := od
        obtain ⟨ad1142, e1142, hx1142_0⟩ := Kd.at_string HR0.out x4_1 p1142 q1142
        cases e1142
        replace hx1142_0 := hcw hx1142_0
        replace p1142 := eq_true p1142
        replace q1142 := eq_true q1142
        have p9 : 0 ≤ (x4_1 : Int) := od
        have q9 : (x4_1 : Int) < ((x3_1.length : Int) : Int) := od
        obtain ⟨go9, co9, eo9, gb9, gl9, cl9, HG9⟩ := Kd.R_form HO_3.out (by omega)
        (first | cases eo9 | (injection eo9 with ea_ en_ ec_; (first | subst ea_ | (injection ea_ with ea_; subst ea_)); subst ec_; clear en_))
        have GB9 := am gb9
        have GG9 := am HG9
        clear gb9 gl9 HG9
        obtain ⟨hx9_0, hf9_0⟩ := Kd.R_celln (⟨#[]⟩ : ByteArray) HO_3.out (x4_1 : Int) p9 q9
        replace p9 := eq_true p9
        replace q9 := eq_true q9
        have HP10 := Kd.R_putg HO_3.out (x4_1 : Int) (rdOf ByteArray.empty l0 x4_1)
        go_wp2_with (first | ((with_reducible refine gate_store (t := 9) (p := 20) rfl ?_); refine store_event (t := 9) (p := 20) (v := ?vo_w11) (w1 := (wr.setCell ⟨go9, (x4_1 : Int).toNat, none⟩ (.string (rdOf ByteArray.empty l0 x4_1)))) ?hg ?ho ?hn ?hr ?_; (case ho => rfl); (case hg => rfl); (case hn => rfl); (case hr => first | (go_simp; done) | (go_simp; rfl)); intro w11 hw; have hg : wr.grownBy w11 (some go9) := (by rw [hw]; exact HP10.2); have hp_ : Kd.R Kd.string 9 w11 w.heap.size (fun _ => True) (.slice (some ⟨go9, 0, none⟩) x3_1.length co9) y1143 := (by rw [hw, Ny1143.out]; exact HP10.1); clear HP10; have n0_ := am (hp_); have n1_ := am ((by rw [hw]; exact below_set (HB.out) GB9.out : Below w.heap.size w w11)); clear HO_3; clear HB; have HO_3 := n0_; have HB := n1_; clear n0_ n1_; clear hg hw hp_))
        go_roundg k1
        case measure => have := HK1.out; omega
        case rel => exact ⟨(y1143), (wrap64 (x4_1 + 1)), rs, H', ⟨by have := HK1.out; omega⟩, ⟨by (with_reducible repeat (first | apply Kd.R_alloc | apply Kd.R_drewN | apply Kd.R_drew)); exact HO_3.out⟩, ⟨by repeat (first | (with_reducible first | exact HB.out | apply below_alloc | apply pw_below_drewN | apply below_drew1) | exact HB.out)⟩⟩
       ·rw [if_neg c8] at H
        exact absurd H (by simp)
      ·rw [if_neg c7] at H
       exact absurd H (by simp)
     ·rw [if_neg c6] at H
      have c6b0 : decide (x4_1 < (l0.length : Int)) = false := decide_eq_false c6
      clear c6
      obtain rfl := Option.some.inj H
      go_wp2
      go_ret
      exact ⟨_, rf, by (with_reducible repeat (first | apply Kd.R_alloc | apply Kd.R_drewN | apply Kd.R_drew)); exact HO_3.out, bl⟩
  ·rw [if_neg c3] at H
   exact absurd H (by simp)
 ·rw [if_neg c2] at H
  exact absurd H (by simp)

/-! ### laws_toObj: function 61 -/
def laws_toObj.f (k : Nat) (a0_0 : ByteArray) (l0_1 : List ByteArray) (l0_2 : List ByteArray) (a0_3 : Int) (l0_4 : List (S113)) (a0_5 : ByteArray) (a0_6 : Int) : Option (ByteArray × List ByteArray × List ByteArray × Int × (List (S114)) × ByteArray × Int) := (laws_toStringS.f k l0_1).bind fun t1147 => ((laws_toStringS.f k l0_2).bind fun t1150 => ((laws_toResp.f k a0_3 l0_4 a0_5).bind fun bt1153 => (some (a0_0, t1147, t1150, bt1153.1, bt1153.2.1, bt1153.2.2, a0_6))))
theorem laws_toObj.mono : ∀ a0 a1 a2 a3 a4 a5 a6 k, LeO (laws_toObj.f k a0 a1 a2 a3 a4 a5 a6) (laws_toObj.f (k + 1) a0 a1 a2 a3 a4 a5 a6) := by
 intro a0 a1 a2 a3 a4 a5 a6 k
 unfold laws_toObj.f
 repeat' first
   | (with_reducible exact laws_toResp.mono _ _ _ _)
   | (with_reducible exact laws_toStringS.mono _ _)
   | (with_reducible exact LeO.refl _)
   | (with_reducible exact LeO.none _)
   | (with_reducible refine LeO.ite ?_ ?_)
   | (with_reducible refine LeO.bind ?_ (fun _ => ?_))
   | exact laws_toResp.mono _ _ _ _
   | exact laws_toStringS.mono _ _
   | exact LeO.none _
   | refine LeO.ite ?_ ?_
   | refine LeO.bind ?_ (fun _ => ?_)
set_option maxHeartbeats 8000000 in
set_option maxRecDepth 100000 in
theorem laws_toObj.calls (k : Nat) (a0_0 : ByteArray) (A0_1 : Option Addr) (c0_1 : Nat) (l0_1 : List ByteArray) (A0_2 : Option Addr) (c0_2 : Nat) (l0_2 : List ByteArray) (a0_3 : Int) (A0_4 : Option Addr) (c0_4 : Nat) (l0_4 : List (S113)) (a0_5 : ByteArray) (a0_6 : Int) (r1 : ByteArray) (r2 : List ByteArray) (r3 : List ByteArray) (r4 : Int) (r5 : List (S114)) (r6 : ByteArray) (r7 : Int) (w : World) (hr0_1 : Kd.C Kd.string w A0_1 l0_1.length l0_1) (hc0_1 : l0_1.length ≤ c0_1) (hr0_2 : Kd.C Kd.string w A0_2 l0_2.length l0_2) (hc0_2 : l0_2.length ≤ c0_2) (hr0_4 : Kd.C k113 w A0_4 l0_4.length l0_4) (hc0_4 : l0_4.length ≤ c0_4) (h : laws_toObj.f k a0_0 l0_1 l0_2 a0_3 l0_4 a0_5 a0_6 = some (r1, r2, r3, r4, r5, r6, r7)) :
  Calls Tryd.prog 61 #[.agg #[.string a0_0, .slice A0_1 l0_1.length c0_1, .slice A0_2 l0_2.length c0_2, .int .i64 a0_3, .slice A0_4 l0_4.length c0_4, .string a0_5, .int .i64 a0_6]] w fun e w' => ∃ v1_ v2_ v4_ : Value, e = .returned (.agg #[.string r1, v1_, v2_, .int .i64 r4, v4_, .string r6, .int .i64 r7]) ∧ Kd.R Kd.string 9 w' w.heap.size (fun k_ => some k_ ≠ (v2_ : Value).ownBlock) v1_ r2 ∧ Kd.R Kd.string 9 w' w.heap.size (fun k_ => some k_ ≠ (v1_ : Value).ownBlock) v2_ r3 ∧ Kd.R k114 114 w' w.heap.size (fun _ => True) v4_ r5 ∧ Below w.heap.size w w' := by
 have hu72 := Tryd.underlying72
 have hu76 := Tryd.underlying76
 have hu51 := Tryd.underlying51
 have hu43 := Tryd.underlying43
 have HR0_1 := am hr0_1
 have HC0_1 := am hc0_1
 clear hr0_1 hc0_1
 have HR0_2 := am hr0_2
 have HC0_2 := am hc0_2
 clear hr0_2 hc0_2
 have HR0_4 := am hr0_4
 have HC0_4 := am hc0_4
 clear hr0_4 hc0_4
 have HB := am (Below.refl w.heap.size w)
 have H : ((laws_toStringS.f k l0_1).bind fun t1147 => ((laws_toStringS.f k l0_2).bind fun t1150 => ((laws_toResp.f k a0_3 l0_4 a0_5).bind fun bt1153 => (some (a0_0, t1147, t1150, bt1153.1, bt1153.2.1, bt1153.2.2, a0_6))))) = some (r1, r2, r3, r4, r5, r6, r7) := h
 clear h
 replace H := ob H
 obtain ⟨t1147, A20, H⟩ := H
 replace H : ((laws_toStringS.f k l0_2).bind fun t1150 => ((laws_toResp.f k a0_3 l0_4 a0_5).bind fun bt1153 => (some (a0_0, t1147, t1150, bt1153.1, bt1153.2.1, bt1153.2.2, a0_6)))) = some (r1, r2, r3, r4, r5, r6, r7) := H
 have A2 := am A20
 clear A20
 replace H := ob H
 obtain ⟨t1150, A30, H⟩ := H
 replace H : ((laws_toResp.f k a0_3 l0_4 a0_5).bind fun bt1153 => (some (a0_0, t1147, t1150, bt1153.1, bt1153.2.1, bt1153.2.2, a0_6))) = some (r1, r2, r3, r4, r5, r6, r7) := H
 have A3 := am A30
 clear A30
 replace H := ob H
 obtain ⟨⟨t1153, t1154, t1157⟩, A40, H⟩ := H
 replace H : (some (a0_0, t1147, t1150, t1153, t1154, t1157, a0_6)) = some (r1, r2, r3, r4, r5, r6, r7) := H
 have A4 := am A40
 clear A40
 simp only [Option.some.injEq, Prod.mk.injEq] at H
 obtain ⟨rfl, rfl, rfl, rfl, rfl, rfl, rfl⟩ := H
 go_enter Tryd.func61, Tryd.ntmps61
 go_wp2_with (first | ((with_reducible refine gate_dst (N := 1) rfl ?_); refine box_event ?hg (N := 1) ?hd (cs := #[.string a0_0, .slice A0_1 l0_1.length c0_1, .slice A0_2 l0_2.length c0_2, .int .i64 a0_3, .slice A0_4 l0_4.length c0_4, .string a0_5, .int .i64 a0_6]) (t := 72) ?hr ?_; (case hd => rfl); (case hg => rfl); (case hr => first | (go_simp; done) | (go_simp; rfl)); intro gb1144 hg w5 hbox hb; have n0_ := am (below_step bl hb); have n1_ := am (hbox); have n2_ := am (sz hg : w.heap.size ≤ gb1144); have n3_ := am (sz hg : w.heap.size ≤ gb1144); clear HB; have HB := n0_; have BK1144 := n1_; have GW1144 := n2_; have GE1144 := n3_; clear n0_ n1_ n2_ n3_; clear hb hbox hg) | ((with_reducible refine gate_dst (N := 2) rfl ?_); refine box_event ?hg (N := 2) ?hd (cs := #[.string (⟨#[]⟩ : ByteArray), .slice none 0 0, .slice none 0 0, .int .i64 0, .slice none 0 0, .string (⟨#[]⟩ : ByteArray), .int .i64 0]) (t := 76) ?hr ?_; (case hd => rfl); (case hg => rfl); (case hr => first | (go_simp; done) | (go_simp; rfl)); intro gb1145 hg w6 hbox hb; have n0_ := kb BK1144 hb; have n1_ := am (below_step bl hb); have n2_ := am (hbox); have n3_ := am (sz hg : w.heap.size ≤ gb1145); have n4_ := am (sz hg : w.heap.size ≤ gb1145); have n5_ := am (nl hg BK1144 : gb1144 ≠ gb1145); have n6_ := am (ng hg BK1144 : gb1145 ≠ gb1144); clear BK1144; clear HB; have BK1144 := n0_; have HB := n1_; have BK1145 := n2_; have GW1145 := n3_; have GE1145 := n4_; have NB1144_1145 := n5_; have NB1145_1144 := n6_; clear n0_ n1_ n2_ n3_ n4_ n5_ n6_; clear hb hbox hg) | ((with_reducible refine gate_dst (N := 3) rfl ?_); refine box_event ?hg (N := 3) ?hd (cs := #[.string (⟨#[]⟩ : ByteArray), .slice none 0 0, .slice none 0 0, .int .i64 0, .slice none 0 0, .string (⟨#[]⟩ : ByteArray), .int .i64 0]) (t := 76) ?hr ?_; (case hd => rfl); (case hg => rfl); (case hr => first | (go_simp; done) | (go_simp; rfl)); intro gb1146 hg w7 hbox hb; have n0_ := kb BK1144 hb; have n1_ := kb BK1145 hb; have n2_ := am (below_step bl hb); have n3_ := am (hbox); have n4_ := am (sz hg : w.heap.size ≤ gb1146); have n5_ := am (sz hg : w.heap.size ≤ gb1146); have n6_ := am (nl hg BK1144 : gb1144 ≠ gb1146); have n7_ := am (ng hg BK1144 : gb1146 ≠ gb1144); have n8_ := am (nl hg BK1145 : gb1145 ≠ gb1146); have n9_ := am (ng hg BK1145 : gb1146 ≠ gb1145); clear BK1144; clear BK1145; clear HB; have BK1144 := n0_; have BK1145 := n1_; have HB := n2_; have BK1146 := n3_; have GW1146 := n4_; have GE1146 := n5_; have NB1144_1146 := n6_; have NB1146_1144 := n7_; have NB1145_1146 := n8_; have NB1146_1145 := n9_; clear n0_ n1_ n2_ n3_ n4_ n5_ n6_ n7_ n8_ n9_; clear hb hbox hg; have hnb8 := NB1144_1145.out; have hnc8 := NB1145_1144.out; have hnb9 := NB1144_1146.out; have hnc9 := NB1146_1144.out; have hcz10_0 : w7.cell? ⟨gb1144, 0, none⟩ = some (.string a0_0) := bc BK1144; have hcz10_1 : w7.cell? ⟨gb1144, 1, none⟩ = some (.slice A0_1 l0_1.length c0_1) := bc BK1144; have hcz10_2 : w7.cell? ⟨gb1144, 2, none⟩ = some (.slice A0_2 l0_2.length c0_2) := bc BK1144; have hcz10_3 : w7.cell? ⟨gb1144, 3, none⟩ = some (.int .i64 a0_3) := bc BK1144; have hcz10_4 : w7.cell? ⟨gb1144, 4, none⟩ = some (.slice A0_4 l0_4.length c0_4) := bc BK1144; have hcz10_5 : w7.cell? ⟨gb1144, 5, none⟩ = some (.string a0_5) := bc BK1144; have hcz10_6 : w7.cell? ⟨gb1144, 6, none⟩ = some (.int .i64 a0_6) := bc BK1144; have hfz10_0 := blk_frozen BK1144.out 0; have hfz10_1 := blk_frozen BK1144.out 1; have hfz10_2 := blk_frozen BK1144.out 2; have hfz10_3 := blk_frozen BK1144.out 3; have hfz10_4 := blk_frozen BK1144.out 4; have hfz10_5 := blk_frozen BK1144.out 5; have hfz10_6 := blk_frozen BK1144.out 6; have hnb11 := NB1146_1145.out; have hnc11 := NB1145_1146.out; have hcz12_0 : w7.cell? ⟨gb1146, 0, none⟩ = some (.string (⟨#[]⟩ : ByteArray)) := bc BK1146; have hcz12_1 : w7.cell? ⟨gb1146, 1, none⟩ = some (.slice none 0 0) := bc BK1146; have hcz12_2 : w7.cell? ⟨gb1146, 2, none⟩ = some (.slice none 0 0) := bc BK1146; have hcz12_3 : w7.cell? ⟨gb1146, 3, none⟩ = some (.int .i64 0) := bc BK1146; have hcz12_4 : w7.cell? ⟨gb1146, 4, none⟩ = some (.slice none 0 0) := bc BK1146; have hcz12_5 : w7.cell? ⟨gb1146, 5, none⟩ = some (.string (⟨#[]⟩ : ByteArray)) := bc BK1146; have hcz12_6 : w7.cell? ⟨gb1146, 6, none⟩ = some (.int .i64 0) := bc BK1146; have hfz12_0 := blk_frozen BK1146.out 0; have hfz12_1 := blk_frozen BK1146.out 1; have hfz12_2 := blk_frozen BK1146.out 2; have hfz12_3 := blk_frozen BK1146.out 3; have hfz12_4 := blk_frozen BK1146.out 4; have hfz12_5 := blk_frozen BK1146.out 5; have hfz12_6 := blk_frozen BK1146.out 6) | ((with_reducible refine gate_callee (f := 141) rfl ?_); refine goesL_ (some 9) rfl rfl Tryd.func141 (by kernel_rfl) rfl #[.slice A0_1 l0_1.length c0_1] rfl ma ?_; (with_reducible refine (laws_toStringS.calls k _ _ l0_1 t1147 _ ?side1 ?side2 A2.out).mono ?_); (case side1 => exact Kd.C_below HR0_1.out bl); (case side2 => exact HC0_1.out); rintro e w13 ⟨v1148, rfl, ho0, hb⟩; refine ⟨_, rfl, ?_⟩; have n0_ := am (Kd.R_lower ho0 (below_size bl)); have n1_ := kf BK1144 hb; have n2_ := kf BK1145 hb; have n3_ := am (blk_below (g := gb1146) (o := .cells #[.string a0_0, .slice none 0 0, .slice none 0 0, .int .i64 0, .slice none 0 0, .string (⟨#[]⟩ : ByteArray), .int .i64 0] 76 (0, 0)) (by (with_reducible repeat (first | refine blk_drewN ?_ _ | refine blk_drew ?_ | refine blk_alloc ?_ _)); refine blk_put (cs := #[.string (⟨#[]⟩ : ByteArray), .slice none 0 0, .slice none 0 0, .int .i64 0, .slice none 0 0, .string (⟨#[]⟩ : ByteArray), .int .i64 0]) ?_ 0 _ rfl; (with_reducible repeat (first | refine blk_drewN ?_ _ | refine blk_drew ?_ | refine blk_alloc ?_ _)); exact BK1146.out) hb); have n4_ := am (below_step bl hb); clear BK1144; clear BK1145; clear BK1146; clear HB; have HO1149 := n0_; have BK1144 := n1_; have BK1145 := n2_; have BK1146 := n3_; have HB := n4_; clear n0_ n1_ n2_ n3_ n4_; (try clear hb); (try clear hb2); (try clear hk); (try clear hi); (try clear ho0); obtain ⟨Ao14, co14, eo14⟩ := Kd.R_slice HO1149.out; subst eo14; have hcz15_0 : w13.cell? ⟨gb1146, 0, none⟩ = some (.string a0_0) := bc BK1146; have hcz15_1 : w13.cell? ⟨gb1146, 1, none⟩ = some (.slice none 0 0) := bc BK1146; have hcz15_2 : w13.cell? ⟨gb1146, 2, none⟩ = some (.slice none 0 0) := bc BK1146; have hcz15_3 : w13.cell? ⟨gb1146, 3, none⟩ = some (.int .i64 0) := bc BK1146; have hcz15_4 : w13.cell? ⟨gb1146, 4, none⟩ = some (.slice none 0 0) := bc BK1146; have hcz15_5 : w13.cell? ⟨gb1146, 5, none⟩ = some (.string (⟨#[]⟩ : ByteArray)) := bc BK1146; have hcz15_6 : w13.cell? ⟨gb1146, 6, none⟩ = some (.int .i64 0) := bc BK1146; have hfz15_0 := blk_frozen BK1146.out 0; have hfz15_1 := blk_frozen BK1146.out 1; have hfz15_2 := blk_frozen BK1146.out 2; have hfz15_3 := blk_frozen BK1146.out 3; have hfz15_4 := blk_frozen BK1146.out 4; have hfz15_5 := blk_frozen BK1146.out 5; have hfz15_6 := blk_frozen BK1146.out 6; have hcz16_0 : w13.cell? ⟨gb1144, 0, none⟩ = some (.string a0_0) := bc BK1144; have hcz16_1 : w13.cell? ⟨gb1144, 1, none⟩ = some (.slice A0_1 l0_1.length c0_1) := bc BK1144; have hcz16_2 : w13.cell? ⟨gb1144, 2, none⟩ = some (.slice A0_2 l0_2.length c0_2) := bc BK1144; have hcz16_3 : w13.cell? ⟨gb1144, 3, none⟩ = some (.int .i64 a0_3) := bc BK1144; have hcz16_4 : w13.cell? ⟨gb1144, 4, none⟩ = some (.slice A0_4 l0_4.length c0_4) := bc BK1144; have hcz16_5 : w13.cell? ⟨gb1144, 5, none⟩ = some (.string a0_5) := bc BK1144; have hcz16_6 : w13.cell? ⟨gb1144, 6, none⟩ = some (.int .i64 a0_6) := bc BK1144; have hfz16_0 := blk_frozen BK1144.out 0; have hfz16_1 := blk_frozen BK1144.out 1; have hfz16_2 := blk_frozen BK1144.out 2; have hfz16_3 := blk_frozen BK1144.out 3; have hfz16_4 := blk_frozen BK1144.out 4; have hfz16_5 := blk_frozen BK1144.out 5; have hfz16_6 := blk_frozen BK1144.out 6) | ((with_reducible refine gate_callee (f := 141) rfl ?_); refine goesL_ (some 13) rfl rfl Tryd.func141 (by kernel_rfl) rfl #[.slice A0_2 l0_2.length c0_2] rfl ma ?_; (with_reducible refine (laws_toStringS.calls k _ _ l0_2 t1150 _ ?side1 ?side2 A3.out).mono ?_); (case side1 => exact Kd.C_below HR0_2.out bl); (case side2 => exact HC0_2.out); rintro e w17 ⟨v1151, rfl, ho0, hb⟩; refine ⟨_, rfl, ?_⟩; have n0_ := am (Kd.R_elder' (by (with_reducible repeat (first | apply Kd.R_alloc | apply Kd.R_drewN | apply Kd.R_drew)); exact (Kd.R_mono (Kd.R_far (p := ⟨gb1146, 1, none⟩) (Kd.R_types HO1149.out BK1146.out (by decide)) (fun _ hk => hk.2) (.slice Ao14 t1147.length co14)) (fun _ h_ => h_.1))) (Kd.R_base ho0) hb); have n1_ := am (Kd.R_lower (Kd.R_new' ho0 (Kd.R_lt (by (with_reducible repeat (first | apply Kd.R_alloc | apply Kd.R_drewN | apply Kd.R_drew)); exact (Kd.R_mono (Kd.R_far (p := ⟨gb1146, 1, none⟩) (Kd.R_types HO1149.out BK1146.out (by decide)) (fun _ hk => hk.2) (.slice Ao14 t1147.length co14)) (fun _ h_ => h_.1))))) (below_size bl)); have n2_ := kf BK1144 hb; have n3_ := kf BK1145 hb; have n4_ := am (blk_below (g := gb1146) (o := .cells #[.string a0_0, .slice Ao14 t1147.length co14, .slice none 0 0, .int .i64 0, .slice none 0 0, .string (⟨#[]⟩ : ByteArray), .int .i64 0] 76 (0, 0)) (by (with_reducible repeat (first | refine blk_drewN ?_ _ | refine blk_drew ?_ | refine blk_alloc ?_ _)); refine blk_put (cs := #[.string a0_0, .slice none 0 0, .slice none 0 0, .int .i64 0, .slice none 0 0, .string (⟨#[]⟩ : ByteArray), .int .i64 0]) ?_ 1 _ rfl; (with_reducible repeat (first | refine blk_drewN ?_ _ | refine blk_drew ?_ | refine blk_alloc ?_ _)); exact BK1146.out) hb); have n5_ := am (below_step bl hb); clear HO1149; clear BK1144; clear BK1145; clear BK1146; clear HB; have HO1149 := n0_; have HO1152 := n1_; have BK1144 := n2_; have BK1145 := n3_; have BK1146 := n4_; have HB := n5_; clear n0_ n1_ n2_ n3_ n4_ n5_; (try clear hb); (try clear hb2); (try clear hk); (try clear hi); (try clear ho0); obtain ⟨Ao18, co18, eo18⟩ := Kd.R_slice HO1152.out; subst eo18; have hcz19_0 : w17.cell? ⟨gb1146, 0, none⟩ = some (.string a0_0) := bc BK1146; have hcz19_1 : w17.cell? ⟨gb1146, 1, none⟩ = some (.slice Ao14 t1147.length co14) := bc BK1146; have hcz19_2 : w17.cell? ⟨gb1146, 2, none⟩ = some (.slice none 0 0) := bc BK1146; have hcz19_3 : w17.cell? ⟨gb1146, 3, none⟩ = some (.int .i64 0) := bc BK1146; have hcz19_4 : w17.cell? ⟨gb1146, 4, none⟩ = some (.slice none 0 0) := bc BK1146; have hcz19_5 : w17.cell? ⟨gb1146, 5, none⟩ = some (.string (⟨#[]⟩ : ByteArray)) := bc BK1146; have hcz19_6 : w17.cell? ⟨gb1146, 6, none⟩ = some (.int .i64 0) := bc BK1146; have hfz19_0 := blk_frozen BK1146.out 0; have hfz19_1 := blk_frozen BK1146.out 1; have hfz19_2 := blk_frozen BK1146.out 2; have hfz19_3 := blk_frozen BK1146.out 3; have hfz19_4 := blk_frozen BK1146.out 4; have hfz19_5 := blk_frozen BK1146.out 5; have hfz19_6 := blk_frozen BK1146.out 6; have hcz20_0 : w17.cell? ⟨gb1144, 0, none⟩ = some (.string a0_0) := bc BK1144; have hcz20_1 : w17.cell? ⟨gb1144, 1, none⟩ = some (.slice A0_1 l0_1.length c0_1) := bc BK1144; have hcz20_2 : w17.cell? ⟨gb1144, 2, none⟩ = some (.slice A0_2 l0_2.length c0_2) := bc BK1144; have hcz20_3 : w17.cell? ⟨gb1144, 3, none⟩ = some (.int .i64 a0_3) := bc BK1144; have hcz20_4 : w17.cell? ⟨gb1144, 4, none⟩ = some (.slice A0_4 l0_4.length c0_4) := bc BK1144; have hcz20_5 : w17.cell? ⟨gb1144, 5, none⟩ = some (.string a0_5) := bc BK1144; have hcz20_6 : w17.cell? ⟨gb1144, 6, none⟩ = some (.int .i64 a0_6) := bc BK1144; have hfz20_0 := blk_frozen BK1144.out 0; have hfz20_1 := blk_frozen BK1144.out 1; have hfz20_2 := blk_frozen BK1144.out 2; have hfz20_3 := blk_frozen BK1144.out 3; have hfz20_4 := blk_frozen BK1144.out 4; have hfz20_5 := blk_frozen BK1144.out 5; have hfz20_6 := blk_frozen BK1144.out 6) | ((with_reducible refine gate_callee (f := 43) rfl ?_); refine goesL_ (some 17) rfl rfl Tryd.func43 (by kernel_rfl) rfl #[.agg #[.int .i64 a0_3, .slice A0_4 l0_4.length c0_4, .string a0_5]] rfl ma ?_; (with_reducible refine (laws_toResp.calls k a0_3 _ _ l0_4 a0_5 t1153 t1154 t1157 _ ?side1 ?side2 A4.out).mono ?_); (case side1 => exact Kd.C_below HR0_4.out bl); (case side2 => exact HC0_4.out); rintro e w21 ⟨v1155, rfl, ho0, hb⟩; refine ⟨_, rfl, ?_⟩; have n0_ := am (Kd.R_below (by (with_reducible repeat (first | apply Kd.R_alloc | apply Kd.R_drewN | apply Kd.R_drew)); exact (Kd.R_mono (Kd.R_far (p := ⟨gb1146, 2, none⟩) (Kd.R_types HO1149.out BK1146.out (by decide)) (fun _ hk => hk.2) (.slice Ao18 t1150.length co18)) (fun _ h_ => h_.1))) hb); have n1_ := am (Kd.R_below (by (with_reducible repeat (first | apply Kd.R_alloc | apply Kd.R_drewN | apply Kd.R_drew)); exact (Kd.R_mono (Kd.R_far (p := ⟨gb1146, 2, none⟩) (Kd.R_types HO1152.out BK1146.out (by decide)) (fun _ hk => hk.2) (.slice Ao18 t1150.length co18)) (fun _ h_ => h_.1))) hb); have n2_ := am (Kd.R_lower ho0 (below_size bl)); have n3_ := kf BK1144 hb; have n4_ := kf BK1145 hb; have n5_ := am (blk_below (g := gb1146) (o := .cells #[.string a0_0, .slice Ao14 t1147.length co14, .slice Ao18 t1150.length co18, .int .i64 0, .slice none 0 0, .string (⟨#[]⟩ : ByteArray), .int .i64 0] 76 (0, 0)) (by (with_reducible repeat (first | refine blk_drewN ?_ _ | refine blk_drew ?_ | refine blk_alloc ?_ _)); refine blk_put (cs := #[.string a0_0, .slice Ao14 t1147.length co14, .slice none 0 0, .int .i64 0, .slice none 0 0, .string (⟨#[]⟩ : ByteArray), .int .i64 0]) ?_ 2 _ rfl; (with_reducible repeat (first | refine blk_drewN ?_ _ | refine blk_drew ?_ | refine blk_alloc ?_ _)); exact BK1146.out) hb); have n6_ := am (below_step bl hb); clear HO1149; clear HO1152; clear BK1144; clear BK1145; clear BK1146; clear HB; have HO1149 := n0_; have HO1152 := n1_; have HO1156 := n2_; have BK1144 := n3_; have BK1145 := n4_; have BK1146 := n5_; have HB := n6_; clear n0_ n1_ n2_ n3_ n4_ n5_ n6_; (try clear hb); (try clear hb2); (try clear hk); (try clear hi); (try clear ho0); have hcz22_0 : w21.cell? ⟨gb1146, 0, none⟩ = some (.string a0_0) := bc BK1146; have hcz22_1 : w21.cell? ⟨gb1146, 1, none⟩ = some (.slice Ao14 t1147.length co14) := bc BK1146; have hcz22_2 : w21.cell? ⟨gb1146, 2, none⟩ = some (.slice Ao18 t1150.length co18) := bc BK1146; have hcz22_3 : w21.cell? ⟨gb1146, 3, none⟩ = some (.int .i64 0) := bc BK1146; have hcz22_4 : w21.cell? ⟨gb1146, 4, none⟩ = some (.slice none 0 0) := bc BK1146; have hcz22_5 : w21.cell? ⟨gb1146, 5, none⟩ = some (.string (⟨#[]⟩ : ByteArray)) := bc BK1146; have hcz22_6 : w21.cell? ⟨gb1146, 6, none⟩ = some (.int .i64 0) := bc BK1146; have hfz22_0 := blk_frozen BK1146.out 0; have hfz22_1 := blk_frozen BK1146.out 1; have hfz22_2 := blk_frozen BK1146.out 2; have hfz22_3 := blk_frozen BK1146.out 3; have hfz22_4 := blk_frozen BK1146.out 4; have hfz22_5 := blk_frozen BK1146.out 5; have hfz22_6 := blk_frozen BK1146.out 6; obtain ⟨Ao23, co23, eo23⟩ := Kd.R_slice HO1156.out; subst eo23; have hcz24_0 : w21.cell? ⟨gb1144, 0, none⟩ = some (.string a0_0) := bc BK1144; have hcz24_1 : w21.cell? ⟨gb1144, 1, none⟩ = some (.slice A0_1 l0_1.length c0_1) := bc BK1144; have hcz24_2 : w21.cell? ⟨gb1144, 2, none⟩ = some (.slice A0_2 l0_2.length c0_2) := bc BK1144; have hcz24_3 : w21.cell? ⟨gb1144, 3, none⟩ = some (.int .i64 a0_3) := bc BK1144; have hcz24_4 : w21.cell? ⟨gb1144, 4, none⟩ = some (.slice A0_4 l0_4.length c0_4) := bc BK1144; have hcz24_5 : w21.cell? ⟨gb1144, 5, none⟩ = some (.string a0_5) := bc BK1144; have hcz24_6 : w21.cell? ⟨gb1144, 6, none⟩ = some (.int .i64 a0_6) := bc BK1144; have hfz24_0 := blk_frozen BK1144.out 0; have hfz24_1 := blk_frozen BK1144.out 1; have hfz24_2 := blk_frozen BK1144.out 2; have hfz24_3 := blk_frozen BK1144.out 3; have hfz24_4 := blk_frozen BK1144.out 4; have hfz24_5 := blk_frozen BK1144.out 5; have hfz24_6 := blk_frozen BK1144.out 6; have hcz25_0 : w21.cell? ⟨gb1145, 0, none⟩ = some (.string (⟨#[]⟩ : ByteArray)) := bc BK1145; have hcz25_1 : w21.cell? ⟨gb1145, 1, none⟩ = some (.slice none 0 0) := bc BK1145; have hcz25_2 : w21.cell? ⟨gb1145, 2, none⟩ = some (.slice none 0 0) := bc BK1145; have hcz25_3 : w21.cell? ⟨gb1145, 3, none⟩ = some (.int .i64 0) := bc BK1145; have hcz25_4 : w21.cell? ⟨gb1145, 4, none⟩ = some (.slice none 0 0) := bc BK1145; have hcz25_5 : w21.cell? ⟨gb1145, 5, none⟩ = some (.string (⟨#[]⟩ : ByteArray)) := bc BK1145; have hcz25_6 : w21.cell? ⟨gb1145, 6, none⟩ = some (.int .i64 0) := bc BK1145; have hfz25_0 := blk_frozen BK1145.out 0; have hfz25_1 := blk_frozen BK1145.out 1; have hfz25_2 := blk_frozen BK1145.out 2; have hfz25_3 := blk_frozen BK1145.out 3; have hfz25_4 := blk_frozen BK1145.out 4; have hfz25_5 := blk_frozen BK1145.out 5; have hfz25_6 := blk_frozen BK1145.out 6))
 refine bodyPost_ret (results_cell_row rfl _ _ gb1145 76 #[.string a0_0, .slice Ao14 t1147.length co14, .slice Ao18 t1150.length co18, .int .i64 t1153, .slice Ao23 t1154.length co23, .string t1157, .int .i64 a0_6] (0, 0) _ rfl (by (with_reducible repeat (first | refine blk_drewN ?_ _ | refine blk_drew ?_ | refine blk_alloc ?_ _)); refine blk_put (cs := #[.string a0_0, .slice Ao14 t1147.length co14, .slice Ao18 t1150.length co18, .int .i64 t1153, .slice Ao23 t1154.length co23, .string t1157, .int .i64 0]) ?_ 6 _ rfl; (with_reducible repeat (first | refine blk_drewN ?_ _ | refine blk_drew ?_ | refine blk_alloc ?_ _)); refine blk_put (cs := #[.string a0_0, .slice Ao14 t1147.length co14, .slice Ao18 t1150.length co18, .int .i64 t1153, .slice Ao23 t1154.length co23, .string (⟨#[]⟩ : ByteArray), .int .i64 0]) ?_ 5 _ rfl; (with_reducible repeat (first | refine blk_drewN ?_ _ | refine blk_drew ?_ | refine blk_alloc ?_ _)); refine blk_put (cs := #[.string a0_0, .slice Ao14 t1147.length co14, .slice Ao18 t1150.length co18, .int .i64 t1153, .slice none 0 0, .string (⟨#[]⟩ : ByteArray), .int .i64 0]) ?_ 4 _ rfl; (with_reducible repeat (first | refine blk_drewN ?_ _ | refine blk_drew ?_ | refine blk_alloc ?_ _)); refine blk_put (cs := #[.string a0_0, .slice Ao14 t1147.length co14, .slice Ao18 t1150.length co18, .int .i64 0, .slice none 0 0, .string (⟨#[]⟩ : ByteArray), .int .i64 0]) ?_ 3 _ rfl; (with_reducible repeat (first | refine blk_drewN ?_ _ | refine blk_drew ?_ | refine blk_alloc ?_ _)); refine blk_put (cs := #[.string a0_0, .slice Ao14 t1147.length co14, .slice none 0 0, .int .i64 0, .slice none 0 0, .string (⟨#[]⟩ : ByteArray), .int .i64 0]) ?_ 2 _ rfl; (with_reducible repeat (first | refine blk_drewN ?_ _ | refine blk_drew ?_ | refine blk_alloc ?_ _)); refine blk_put (cs := #[.string a0_0, .slice none 0 0, .slice none 0 0, .int .i64 0, .slice none 0 0, .string (⟨#[]⟩ : ByteArray), .int .i64 0]) ?_ 1 _ rfl; (with_reducible repeat (first | refine blk_drewN ?_ _ | refine blk_drew ?_ | refine blk_alloc ?_ _)); refine blk_put (cs := #[.string (⟨#[]⟩ : ByteArray), .slice none 0 0, .slice none 0 0, .int .i64 0, .slice none 0 0, .string (⟨#[]⟩ : ByteArray), .int .i64 0]) ?_ 0 _ rfl; (with_reducible repeat (first | refine blk_drewN ?_ _ | refine blk_drew ?_ | refine blk_alloc ?_ _)); refine blk_far ?_ NB1145_1146.out _; (with_reducible repeat (first | refine blk_drewN ?_ _ | refine blk_drew ?_ | refine blk_alloc ?_ _)); refine blk_far ?_ NB1145_1146.out _; (with_reducible repeat (first | refine blk_drewN ?_ _ | refine blk_drew ?_ | refine blk_alloc ?_ _)); refine blk_far ?_ NB1145_1146.out _; (with_reducible repeat (first | refine blk_drewN ?_ _ | refine blk_drew ?_ | refine blk_alloc ?_ _)); refine blk_far ?_ NB1145_1146.out _; (with_reducible repeat (first | refine blk_drewN ?_ _ | refine blk_drew ?_ | refine blk_alloc ?_ _)); exact BK1145.out) Tryd.underlying76 rfl (by kernel_rfl)) rfl ?_
 exact ⟨_, _, _, rf, by (with_reducible repeat (first | apply Kd.R_alloc | apply Kd.R_drewN | apply Kd.R_drew)); exact Kd.R_mono (Kd.R_far (p := ⟨gb1145, 6, none⟩) (Kd.R_far (p := ⟨gb1145, 5, none⟩) (Kd.R_far (p := ⟨gb1145, 4, none⟩) (Kd.R_far (p := ⟨gb1145, 3, none⟩) (Kd.R_far (p := ⟨gb1145, 2, none⟩) (Kd.R_far (p := ⟨gb1145, 1, none⟩) (Kd.R_far (p := ⟨gb1145, 0, none⟩) (Kd.R_far (p := ⟨gb1146, 6, none⟩) (Kd.R_far (p := ⟨gb1146, 5, none⟩) (Kd.R_far (p := ⟨gb1146, 4, none⟩) (Kd.R_far (p := ⟨gb1146, 3, none⟩) (Kd.R_types (Kd.R_types HO1149.out BK1146.out (by decide)) BK1145.out (by decide)) (fun _ hk => hk.1.2) (.int .i64 t1153)) (fun _ hk => hk.1.2) (.slice Ao23 t1154.length co23)) (fun _ hk => hk.1.2) (.string t1157)) (fun _ hk => hk.1.2) (.int .i64 a0_6)) (fun _ hk => hk.2) (.string a0_0)) (fun _ hk => hk.2) (.slice Ao14 t1147.length co14)) (fun _ hk => hk.2) (.slice Ao18 t1150.length co18)) (fun _ hk => hk.2) (.int .i64 t1153)) (fun _ hk => hk.2) (.slice Ao23 t1154.length co23)) (fun _ hk => hk.2) (.string t1157)) (fun _ hk => hk.2) (.int .i64 a0_6)) (fun _ hk => hk.1.1.2), by (with_reducible repeat (first | apply Kd.R_alloc | apply Kd.R_drewN | apply Kd.R_drew)); exact Kd.R_mono (Kd.R_far (p := ⟨gb1145, 6, none⟩) (Kd.R_far (p := ⟨gb1145, 5, none⟩) (Kd.R_far (p := ⟨gb1145, 4, none⟩) (Kd.R_far (p := ⟨gb1145, 3, none⟩) (Kd.R_far (p := ⟨gb1145, 2, none⟩) (Kd.R_far (p := ⟨gb1145, 1, none⟩) (Kd.R_far (p := ⟨gb1145, 0, none⟩) (Kd.R_far (p := ⟨gb1146, 6, none⟩) (Kd.R_far (p := ⟨gb1146, 5, none⟩) (Kd.R_far (p := ⟨gb1146, 4, none⟩) (Kd.R_far (p := ⟨gb1146, 3, none⟩) (Kd.R_types (Kd.R_types HO1152.out BK1146.out (by decide)) BK1145.out (by decide)) (fun _ hk => hk.1.2) (.int .i64 t1153)) (fun _ hk => hk.1.2) (.slice Ao23 t1154.length co23)) (fun _ hk => hk.1.2) (.string t1157)) (fun _ hk => hk.1.2) (.int .i64 a0_6)) (fun _ hk => hk.2) (.string a0_0)) (fun _ hk => hk.2) (.slice Ao14 t1147.length co14)) (fun _ hk => hk.2) (.slice Ao18 t1150.length co18)) (fun _ hk => hk.2) (.int .i64 t1153)) (fun _ hk => hk.2) (.slice Ao23 t1154.length co23)) (fun _ hk => hk.2) (.string t1157)) (fun _ hk => hk.2) (.int .i64 a0_6)) (fun _ hk => hk.1.1.2), by (with_reducible repeat (first | apply Kd.R_alloc | apply Kd.R_drewN | apply Kd.R_drew)); exact Kd.R_mono (Kd.R_far (p := ⟨gb1145, 6, none⟩) (Kd.R_far (p := ⟨gb1145, 5, none⟩) (Kd.R_far (p := ⟨gb1145, 4, none⟩) (Kd.R_far (p := ⟨gb1145, 3, none⟩) (Kd.R_far (p := ⟨gb1145, 2, none⟩) (Kd.R_far (p := ⟨gb1145, 1, none⟩) (Kd.R_far (p := ⟨gb1145, 0, none⟩) (Kd.R_far (p := ⟨gb1146, 6, none⟩) (Kd.R_far (p := ⟨gb1146, 5, none⟩) (Kd.R_far (p := ⟨gb1146, 4, none⟩) (Kd.R_far (p := ⟨gb1146, 3, none⟩) (Kd.R_types (Kd.R_types HO1156.out BK1146.out (by decide)) BK1145.out (by decide)) (fun _ hk => hk.1.2) (.int .i64 t1153)) (fun _ hk => hk.1.2) (.slice Ao23 t1154.length co23)) (fun _ hk => hk.1.2) (.string t1157)) (fun _ hk => hk.1.2) (.int .i64 a0_6)) (fun _ hk => hk.2) (.string a0_0)) (fun _ hk => hk.2) (.slice Ao14 t1147.length co14)) (fun _ hk => hk.2) (.slice Ao18 t1150.length co18)) (fun _ hk => hk.2) (.int .i64 t1153)) (fun _ hk => hk.2) (.slice Ao23 t1154.length co23)) (fun _ hk => hk.2) (.string t1157)) (fun _ hk => hk.2) (.int .i64 a0_6)) (fun _ hk => trivial), bl⟩

/-! ### impl_isTime: function 143 -/
def impl_isTime.f (a0 : Int) : Option (Bool) := (impl_inRange.f a0 0 1000000).bind fun t1158 => (some t1158)
set_option maxHeartbeats 8000000 in
set_option maxRecDepth 100000 in
theorem impl_isTime.calls (a0 : Int) (r : Bool) (w : World) (h : impl_isTime.f a0 = some r) :
  Calls Tryd.prog 143 #[.int .i64 a0] w fun e w' => e = .returned (.bool r) ∧ Drawn0 w w' := by
 have H : ((impl_inRange.f a0 0 1000000).bind fun t1158 => (some t1158)) = some r := h
 clear h
 replace H := ob H
 obtain ⟨t1158, A20, H⟩ := H
 replace H : (some t1158) = some r := H
 have A2 := am A20
 clear A20
 obtain rfl := Option.some.inj H
 go_enter Tryd.func143, Tryd.ntmps143
 go_wp2_with (first | ((with_reducible refine gate_callee (f := 118) rfl ?_); refine goesL_ (some 4) rfl rfl Tryd.func118 (by kernel_rfl) rfl #[.int .i64 a0, .int .i64 0, .int .i64 1000000] rfl ma ?_; (with_reducible refine (impl_inRange.calls a0 0 1000000 t1158 _ A2.out).mono ?_); rintro e w' ⟨rfl, ⟨nd, rfl⟩⟩; refine ⟨_, rfl, ?_⟩))
 go_ret
 exact ⟨rs, dr⟩

/-! ### impl_namesOk: function 144 -/
def impl_namesOk.l0 : Nat → List ByteArray → List ByteArray → Int → Int → Option (Bool)
 | 0, _, _, _, _ => none
 | k + 1, x0, x5, x6, x7 => if x7 < x6 then (if 0 ≤ x7 then (if x7 < (x5.length : Int) then ((impl_TokenOk.f k (rdOf ByteArray.empty x5 x7)).bind fun t1160 => (if t1160 = true then (impl_namesOk.l0 k x0 x5 x6 (wrap64 (x7 + 1))) else (some false))) else (none)) else (none)) else (some (decide ((x0.length : Int) ≤ 4)))
def impl_namesOk.f (k : Nat) (l0 : List ByteArray) : Option (Bool) := impl_namesOk.l0 k l0 l0 (l0.length : Int) 0
theorem impl_namesOk.mono_l : ∀ k, (∀ y0 y1 y2 y3, LeO (impl_namesOk.l0 k y0 y1 y2 y3) (impl_namesOk.l0 (k + 1) y0 y1 y2 y3))
 | 0 => fun _ _ _ _ r h => by simp [impl_namesOk.l0] at h
 | k + 1 => by
  have ih0 := impl_namesOk.mono_l k
  ·intro y0 y1 y2 y3
   unfold impl_namesOk.l0
   repeat' first
   | (with_reducible exact ih0 _ _ _ _)
   | (with_reducible exact impl_TokenOk.mono _ _)
   | (with_reducible exact LeO.refl _)
   | (with_reducible exact LeO.none _)
   | (with_reducible refine LeO.ite ?_ ?_)
   | (with_reducible refine LeO.bind ?_ (fun _ => ?_))
   | exact ih0 _ _ _ _
   | exact impl_TokenOk.mono _ _
   | exact LeO.none _
   | refine LeO.ite ?_ ?_
   | refine LeO.bind ?_ (fun _ => ?_)
theorem impl_namesOk.mono : ∀ a0 k, LeO (impl_namesOk.f k a0) (impl_namesOk.f (k + 1) a0) := by
 intro a0 k
 have ih0 := impl_namesOk.mono_l k
 unfold impl_namesOk.f
 repeat' first
   | (with_reducible exact ih0 _ _ _ _)
   | (with_reducible exact impl_TokenOk.mono _ _)
   | (with_reducible exact LeO.refl _)
   | (with_reducible exact LeO.none _)
   | (with_reducible refine LeO.ite ?_ ?_)
   | (with_reducible refine LeO.bind ?_ (fun _ => ?_))
   | exact ih0 _ _ _ _
   | exact impl_TokenOk.mono _ _
   | exact LeO.none _
   | refine LeO.ite ?_ ?_
   | refine LeO.bind ?_ (fun _ => ?_)
set_option maxHeartbeats 8000000 in
set_option maxRecDepth 100000 in
theorem impl_namesOk.calls (k : Nat) (A0 : Option Addr) (c0 : Nat) (l0 : List ByteArray) (r : Bool) (w : World) (hr0 : Kd.C Kd.string w A0 l0.length l0) (hc0 : l0.length ≤ c0) (h : impl_namesOk.f k l0 = some r) :
  Calls Tryd.prog 144 #[.slice A0 l0.length c0] w fun e w' => e = .returned (.bool r) ∧ Drawn0 w w' := by
 have HR0 := am hr0
 have HC0 := am hc0
 clear hr0 hc0
 have H : (impl_namesOk.l0 k l0 l0 (l0.length : Int) 0) = some r := h
 clear h
 have H' := am H
 clear H
 go_enter Tryd.func144, Tryd.ntmps144
 go_wp2
 (try simp only [Act.put, List.setIfInBounds_toArray, List.set_cons_zero, List.set_cons_succ])
 go_loopg [7] k (fun kq v7 w' => ∃ (x7_1 : Int), v7 = .int .i64 x7_1 ∧ Aside0 (impl_namesOk.l0 kq l0 l0 (l0.length : Int) x7_1 = some r) ∧ Aside0 (kq ≤ k) ∧ Drawn0 w w')
 case atStart => exact ⟨(0), rs, H', ⟨Nat.le_refl _⟩, dr⟩
 case round =>
  clear H'
  try clear c1
  obtain ⟨x7_1, rfl, HA, HK1, ⟨m1, rfl⟩⟩ := hrel
  cases gk with
  | zero => exact absurd HA.out (by simp [impl_namesOk.l0])
  | succ k1 =>
   have H := HA.out
   clear HA
   simp only [impl_namesOk.l0] at H
   by_cases c2 : x7_1 < (l0.length : Int)
   ·rw [if_pos c2] at H
    have c2b0 : decide (x7_1 < (l0.length : Int)) = true := decide_eq_true c2
    clear c2
    by_cases c3 : 0 ≤ x7_1
    ·rw [if_pos c3] at H
     have c3b0 : decide (0 ≤ x7_1) = true := decide_eq_true c3
     clear c3
     by_cases c4 : x7_1 < (l0.length : Int)
     ·rw [if_pos c4] at H
      have c4b0 : decide (x7_1 < (l0.length : Int)) = true := decide_eq_true c4
      clear c4
      replace H := ob H
      obtain ⟨t1160, A50, H⟩ := H
      replace H : (if t1160 = true then (impl_namesOk.l0 k1 l0 l0 (l0.length : Int) (wrap64 (x7_1 + 1))) else (some false)) = some r := H
      have A5 := am A50
      clear A50
      by_cases c6 : t1160 = true
      ·subst c6
       have H1 : (impl_namesOk.l0 k1 l0 l0 (l0.length : Int) (wrap64 (x7_1 + 1))) = some r := by rw [if_pos rfl] at H; exact H
       clear H
       have H := H1
       clear H1
       have H' := am H
       clear H
       have p1159 : 0 ≤ (x7_1 : Int) := od
       have q1159 : x7_1 < (l0.length : Int) := od
       obtain ⟨ad1159, e1159, hx1159_0⟩ := Kd.at_string HR0.out x7_1 p1159 q1159
       cases e1159
       replace p1159 := eq_true p1159
       replace q1159 := eq_true q1159
       go_wp2_with (first | ((with_reducible refine gate_callee (f := 174) rfl ?_); refine goesL_ (some 12) rfl rfl Tryd.func174 (by kernel_rfl) rfl #[.string (rdOf ByteArray.empty l0 x7_1)] rfl ma ?_; (with_reducible refine (impl_TokenOk.calls k1 (rdOf ByteArray.empty l0 x7_1) true _ A5.out).mono ?_); rintro e w' ⟨rfl, ⟨nd, rfl⟩⟩; refine ⟨_, rfl, ?_⟩))
       go_roundg k1
       case measure => have := HK1.out; omega
       case rel => exact ⟨(wrap64 (x7_1 + 1)), rs, H', ⟨by have := HK1.out; omega⟩, dr⟩
      ·replace c6 := Bool.eq_false_iff.mpr c6
       subst c6
       have H1 : (some false) = some r := by rw [if_neg (show ¬ (false = true) by decide)] at H; exact H
       clear H
       have H := H1
       clear H1
       obtain rfl := Option.some.inj H
       have p1159 : 0 ≤ (x7_1 : Int) := od
       have q1159 : x7_1 < (l0.length : Int) := od
       obtain ⟨ad1159, e1159, hx1159_0⟩ := Kd.at_string HR0.out x7_1 p1159 q1159
       cases e1159
       replace p1159 := eq_true p1159
       replace q1159 := eq_true q1159
       go_wp2_with (first | ((with_reducible refine gate_callee (f := 174) rfl ?_); refine goesL_ (some 12) rfl rfl Tryd.func174 (by kernel_rfl) rfl #[.string (rdOf ByteArray.empty l0 x7_1)] rfl ma ?_; (with_reducible refine (impl_TokenOk.calls k1 (rdOf ByteArray.empty l0 x7_1) false _ A5.out).mono ?_); rintro e w' ⟨rfl, ⟨nd, rfl⟩⟩; refine ⟨_, rfl, ?_⟩))
       go_ret
       exact ⟨rs, dr⟩
     ·rw [if_neg c4] at H
      exact absurd H (by simp)
    ·rw [if_neg c3] at H
     exact absurd H (by simp)
   ·rw [if_neg c2] at H
    have c2b0 : decide (x7_1 < (l0.length : Int)) = false := decide_eq_false c2
    clear c2
    obtain rfl := Option.some.inj H
    go_wp2
    go_ret
    exact ⟨rs, dr⟩

/-! ### impl_ObjOk: function 62 -/
mutual
def impl_ObjOk.l0 : Nat → List ByteArray → Int → Int → ByteArray → List ByteArray → List ByteArray → Int → List (S114) → ByteArray → Int → Option (Bool)
 | 0, _, _, _, _, _, _, _, _, _, _ => none
 | k + 1, x6, x7, x8, x1162000, x1162001, x1162002, x1162003, x1162004, x1162005, x1162006 => if x8 < x7 then (if 0 ≤ x8 then (if x8 < (x6.length : Int) then ((impl_ValueOk.f k (rdOf ByteArray.empty x6 x8)).bind fun t1163 => (if t1163 = true then (impl_ObjOk.l0 k x6 x7 (wrap64 (x8 + 1)) x1162000 x1162001 x1162002 x1162003 x1162004 x1162005 x1162006) else (some false))) else (none)) else (none)) else ((impl_pathOk.f k x1162000).bind fun t1164 => (if t1164 = true then ((impl_isTime.f x1162006).bind fun t1165 => (if t1165 = true then (if (x1162002.length : Int) = (x1162001.length : Int) then ((impl_namesOk.f k x1162001).bind fun t1166 => (if t1166 = true then ((impl_RespOk.f k x1162003 x1162004 x1162005).bind fun t1167 => (impl_ObjOk.j1 k (!t1167) x1162000 x1162001 x1162002 x1162003 x1162004 x1162005 x1162006)) else (impl_ObjOk.j1 k true x1162000 x1162001 x1162002 x1162003 x1162004 x1162005 x1162006))) else (impl_ObjOk.j1 k true x1162000 x1162001 x1162002 x1162003 x1162004 x1162005 x1162006)) else (impl_ObjOk.j1 k true x1162000 x1162001 x1162002 x1162003 x1162004 x1162005 x1162006))) else (impl_ObjOk.j1 k true x1162000 x1162001 x1162002 x1162003 x1162004 x1162005 x1162006)))
def impl_ObjOk.j1 : Nat → Bool → ByteArray → List ByteArray → List ByteArray → Int → List (S114) → ByteArray → Int → Option (Bool)
 | 0, _, _, _, _, _, _, _, _ => none
 | k + 1, x46, x1162000, x1162001, x1162002, x1162003, x1162004, x1162005, x1162006 => if x46 = true then (some false) else ((impl_VaryOf.f k x1162004).bind fun t1168 => ((slices_Equal_string_string.f k x1162001 t1168).bind fun t1171 => (some t1171)))
end
def impl_ObjOk.f (k : Nat) (a0_0 : ByteArray) (l0_1 : List ByteArray) (l0_2 : List ByteArray) (a0_3 : Int) (l0_4 : List (S114)) (a0_5 : ByteArray) (a0_6 : Int) : Option (Bool) := impl_ObjOk.l0 k l0_2 (l0_2.length : Int) 0 a0_0 l0_1 l0_2 a0_3 l0_4 a0_5 a0_6
theorem impl_ObjOk.mono_l : ∀ k, (∀ y0 y1 y2 y3 y4 y5 y6 y7 y8 y9, LeO (impl_ObjOk.l0 k y0 y1 y2 y3 y4 y5 y6 y7 y8 y9) (impl_ObjOk.l0 (k + 1) y0 y1 y2 y3 y4 y5 y6 y7 y8 y9)) ∧ (∀ y0 y1 y2 y3 y4 y5 y6 y7, LeO (impl_ObjOk.j1 k y0 y1 y2 y3 y4 y5 y6 y7) (impl_ObjOk.j1 (k + 1) y0 y1 y2 y3 y4 y5 y6 y7))
 | 0 => ⟨fun _ _ _ _ _ _ _ _ _ _ r h => by simp [impl_ObjOk.l0] at h, fun _ _ _ _ _ _ _ _ r h => by simp [impl_ObjOk.j1] at h⟩
 | k + 1 => by
  obtain ⟨ih0, ih1⟩ := impl_ObjOk.mono_l k
  refine ⟨?_, ?_⟩
  ·intro y0 y1 y2 y3 y4 y5 y6 y7 y8 y9
   unfold impl_ObjOk.l0
   repeat' first
   | (with_reducible exact ih0 _ _ _ _ _ _ _ _ _ _)
   | (with_reducible exact ih1 _ _ _ _ _ _ _ _)
   | (with_reducible exact impl_RespOk.mono _ _ _ _)
   | (with_reducible exact impl_ValueOk.mono _ _)
   | (with_reducible exact impl_VaryOf.mono _ _)
   | (with_reducible exact impl_namesOk.mono _ _)
   | (with_reducible exact impl_pathOk.mono _ _)
   | (with_reducible exact slices_Equal_string_string.mono _ _ _)
   | (with_reducible exact LeO.refl _)
   | (with_reducible exact LeO.none _)
   | (with_reducible refine LeO.ite ?_ ?_)
   | (with_reducible refine LeO.bind ?_ (fun _ => ?_))
   | exact ih0 _ _ _ _ _ _ _ _ _ _
   | exact ih1 _ _ _ _ _ _ _ _
   | exact impl_RespOk.mono _ _ _ _
   | exact impl_ValueOk.mono _ _
   | exact impl_VaryOf.mono _ _
   | exact impl_namesOk.mono _ _
   | exact impl_pathOk.mono _ _
   | exact slices_Equal_string_string.mono _ _ _
   | exact LeO.none _
   | refine LeO.ite ?_ ?_
   | refine LeO.bind ?_ (fun _ => ?_)
  ·intro y0 y1 y2 y3 y4 y5 y6 y7
   unfold impl_ObjOk.j1
   repeat' first
   | (with_reducible exact ih0 _ _ _ _ _ _ _ _ _ _)
   | (with_reducible exact ih1 _ _ _ _ _ _ _ _)
   | (with_reducible exact impl_RespOk.mono _ _ _ _)
   | (with_reducible exact impl_ValueOk.mono _ _)
   | (with_reducible exact impl_VaryOf.mono _ _)
   | (with_reducible exact impl_namesOk.mono _ _)
   | (with_reducible exact impl_pathOk.mono _ _)
   | (with_reducible exact slices_Equal_string_string.mono _ _ _)
   | (with_reducible exact LeO.refl _)
   | (with_reducible exact LeO.none _)
   | (with_reducible refine LeO.ite ?_ ?_)
   | (with_reducible refine LeO.bind ?_ (fun _ => ?_))
   | exact ih0 _ _ _ _ _ _ _ _ _ _
   | exact ih1 _ _ _ _ _ _ _ _
   | exact impl_RespOk.mono _ _ _ _
   | exact impl_ValueOk.mono _ _
   | exact impl_VaryOf.mono _ _
   | exact impl_namesOk.mono _ _
   | exact impl_pathOk.mono _ _
   | exact slices_Equal_string_string.mono _ _ _
   | exact LeO.none _
   | refine LeO.ite ?_ ?_
   | refine LeO.bind ?_ (fun _ => ?_)
theorem impl_ObjOk.mono : ∀ a0 a1 a2 a3 a4 a5 a6 k, LeO (impl_ObjOk.f k a0 a1 a2 a3 a4 a5 a6) (impl_ObjOk.f (k + 1) a0 a1 a2 a3 a4 a5 a6) := by
 intro a0 a1 a2 a3 a4 a5 a6 k
 obtain ⟨ih0, ih1⟩ := impl_ObjOk.mono_l k
 unfold impl_ObjOk.f
 repeat' first
   | (with_reducible exact ih0 _ _ _ _ _ _ _ _ _ _)
   | (with_reducible exact ih1 _ _ _ _ _ _ _ _)
   | (with_reducible exact impl_RespOk.mono _ _ _ _)
   | (with_reducible exact impl_ValueOk.mono _ _)
   | (with_reducible exact impl_VaryOf.mono _ _)
   | (with_reducible exact impl_namesOk.mono _ _)
   | (with_reducible exact impl_pathOk.mono _ _)
   | (with_reducible exact slices_Equal_string_string.mono _ _ _)
   | (with_reducible exact LeO.refl _)
   | (with_reducible exact LeO.none _)
   | (with_reducible refine LeO.ite ?_ ?_)
   | (with_reducible refine LeO.bind ?_ (fun _ => ?_))
   | exact ih0 _ _ _ _ _ _ _ _ _ _
   | exact ih1 _ _ _ _ _ _ _ _
   | exact impl_RespOk.mono _ _ _ _
   | exact impl_ValueOk.mono _ _
   | exact impl_VaryOf.mono _ _
   | exact impl_namesOk.mono _ _
   | exact impl_pathOk.mono _ _
   | exact slices_Equal_string_string.mono _ _ _
   | exact LeO.none _
   | refine LeO.ite ?_ ?_
   | refine LeO.bind ?_ (fun _ => ?_)
def impl_ObjOk.T9 : Bool × List (List Nat × List Nat) := (true, [([], []), ([0], [0]), ([], []), ([2], [2]), ([3], [3]), ([4], [4]), ([1, 5, 5], [1, 5]), ([6, 6, 0, 1, 2, 3, 4, 5, 6], [6])])
def impl_ObjOk.B9 : List Nat := [0, 1, 0, 4, 12, 28, 63, 127]
theorem impl_ObjOk.tab9 : rtab .any (opsOf Tryd.f62 9) = impl_ObjOk.T9 := by kernel_rfl
theorem impl_ObjOk.bits9 : waitsOk impl_ObjOk.T9.2 impl_ObjOk.B9 = true := by kernel_rfl
set_option maxHeartbeats 8000000 in
set_option maxRecDepth 100000 in
theorem impl_ObjOk.calls (k : Nat) (a0_0 : ByteArray) (A0_1 : Option Addr) (c0_1 : Nat) (l0_1 : List ByteArray) (A0_2 : Option Addr) (c0_2 : Nat) (l0_2 : List ByteArray) (a0_3 : Int) (A0_4 : Option Addr) (c0_4 : Nat) (l0_4 : List (S114)) (a0_5 : ByteArray) (a0_6 : Int) (r : Bool) (w : World) (hGM : GLOBM w) (hr0_1 : Kd.C Kd.string w A0_1 l0_1.length l0_1) (hc0_1 : l0_1.length ≤ c0_1) (hr0_2 : Kd.C Kd.string w A0_2 l0_2.length l0_2) (hc0_2 : l0_2.length ≤ c0_2) (hr0_4 : Kd.C k114 w A0_4 l0_4.length l0_4) (hc0_4 : l0_4.length ≤ c0_4) (h : impl_ObjOk.f k a0_0 l0_1 l0_2 a0_3 l0_4 a0_5 a0_6 = some r) :
  Calls Tryd.prog 62 #[.agg #[.string a0_0, .slice A0_1 l0_1.length c0_1, .slice A0_2 l0_2.length c0_2, .int .i64 a0_3, .slice A0_4 l0_4.length c0_4, .string a0_5, .int .i64 a0_6]] w fun e w' => e = .returned (.bool r) ∧ Below w.heap.size w w' := by
 have hu76 := Tryd.underlying76
 have hu43 := Tryd.underlying43
 have HR0_1 := am hr0_1
 have HC0_1 := am hc0_1
 clear hr0_1 hc0_1
 have HR0_2 := am hr0_2
 have HC0_2 := am hc0_2
 clear hr0_2 hc0_2
 have HR0_4 := am hr0_4
 have HC0_4 := am hc0_4
 clear hr0_4 hc0_4
 have HGM := am hGM
 clear hGM
 have HB := am (Below.refl w.heap.size w)
 have H : (impl_ObjOk.l0 k l0_2 (l0_2.length : Int) 0 a0_0 l0_1 l0_2 a0_3 l0_4 a0_5 a0_6) = some r := h
 clear h
 have H' := am H
 clear H
 go_enter Tryd.func62, Tryd.ntmps62
 go_wp2_with (first | ((with_reducible refine gate_dst (N := 1) rfl ?_); (try (refine gate_guard (by rfl) ?_; dsimp only)); refine box_event ?hg (N := 1) ?hd (cs := #[.string a0_0, .slice A0_1 l0_1.length c0_1, .slice A0_2 l0_2.length c0_2, .int .i64 a0_3, .slice A0_4 l0_4.length c0_4, .string a0_5, .int .i64 a0_6]) (t := 76) ?hr ?_; (case hd => rfl); (case hg => rfl); (case hr => first | (go_simp; done) | (go_simp; rfl)); intro gb1161 hg w2 hbox hb; have n0_ := am (below_step bl hb); have n1_ := am (hbox); have n2_ := am (sz hg : w.heap.size ≤ gb1161); have n3_ := am (sz hg : w.heap.size ≤ gb1161); clear HB; have HB := n0_; have BK1161 := n1_; have GW1161 := n2_; have GE1161 := n3_; clear n0_ n1_ n2_ n3_; clear hb hbox hg; have hcz3_0 : w2.cell? ⟨gb1161, 0, none⟩ = some (.string a0_0) := bc BK1161; have hcz3_1 : w2.cell? ⟨gb1161, 1, none⟩ = some (.slice A0_1 l0_1.length c0_1) := bc BK1161; have hcz3_2 : w2.cell? ⟨gb1161, 2, none⟩ = some (.slice A0_2 l0_2.length c0_2) := bc BK1161; have hcz3_3 : w2.cell? ⟨gb1161, 3, none⟩ = some (.int .i64 a0_3) := bc BK1161; have hcz3_4 : w2.cell? ⟨gb1161, 4, none⟩ = some (.slice A0_4 l0_4.length c0_4) := bc BK1161; have hcz3_5 : w2.cell? ⟨gb1161, 5, none⟩ = some (.string a0_5) := bc BK1161; have hcz3_6 : w2.cell? ⟨gb1161, 6, none⟩ = some (.int .i64 a0_6) := bc BK1161; have hfz3_0 := blk_frozen BK1161.out 0; have hfz3_1 := blk_frozen BK1161.out 1; have hfz3_2 := blk_frozen BK1161.out 2; have hfz3_3 := blk_frozen BK1161.out 3; have hfz3_4 := blk_frozen BK1161.out 4; have hfz3_5 := blk_frozen BK1161.out 5; have hfz3_6 := blk_frozen BK1161.out 6))
 (try simp only [Act.put, List.setIfInBounds_toArray, List.set_cons_zero, List.set_cons_succ])
 go_loopg [8] k (fun kq v8 w' => ∃ (x8_1 : Int), v8 = .int .i64 x8_1 ∧ Aside0 (impl_ObjOk.l0 kq l0_2 (l0_2.length : Int) x8_1 a0_0 l0_1 l0_2 a0_3 l0_4 a0_5 a0_6 = some r) ∧ Aside0 (kq ≤ k) ∧ Aside0 (w'.heap[gb1161]? = some (.cells #[.string a0_0, (.slice A0_1 l0_1.length c0_1), (.slice A0_2 l0_2.length c0_2), .int .i64 a0_3, (.slice A0_4 l0_4.length c0_4), .string a0_5, .int .i64 a0_6] 76 (0, 0))) ∧ Aside0 (Below w.heap.size w w'))
 case atStart => exact ⟨(0), rs, H', ⟨Nat.le_refl _⟩, ⟨by (with_reducible repeat (first | refine blk_drewN ?_ _ | refine blk_drew ?_ | refine blk_alloc ?_ _)); exact BK1161.out⟩, ⟨by repeat (first | (with_reducible first | exact HB.out | apply below_alloc | apply pw_below_drewN | apply below_drew1 | refine below_set ?_ GE1161.out) | exact HB.out)⟩⟩
 case round =>
  clear H'
  try clear p2
  try clear hcz3_0
  try clear hcz3_1
  try clear hcz3_2
  try clear hcz3_3
  try clear hcz3_4
  try clear hcz3_5
  try clear hcz3_6
  try clear hfz3_0
  try clear hfz3_1
  try clear hfz3_2
  try clear hfz3_3
  try clear hfz3_4
  try clear hfz3_5
  try clear hfz3_6
  obtain ⟨x8_1, rfl, HA, HK1, BK1161, HB⟩ := hrel
  cases gk with
  | zero => exact absurd HA.out (by simp [impl_ObjOk.l0])
  | succ k1 =>
   have H := HA.out
   clear HA
   simp only [impl_ObjOk.l0] at H
   by_cases c4 : x8_1 < (l0_2.length : Int)
   ·rw [if_pos c4] at H
    have c4b0 : decide (x8_1 < (l0_2.length : Int)) = true := decide_eq_true c4
    clear c4
    by_cases c5 : 0 ≤ x8_1
    ·rw [if_pos c5] at H
     have c5b0 : decide (0 ≤ x8_1) = true := decide_eq_true c5
     clear c5
     by_cases c6 : x8_1 < (l0_2.length : Int)
     ·rw [if_pos c6] at H
      have c6b0 : decide (x8_1 < (l0_2.length : Int)) = true := decide_eq_true c6
      clear c6
      replace H := ob H
      obtain ⟨t1163, A70, H⟩ := H
      replace H : (if t1163 = true then (impl_ObjOk.l0 k1 l0_2 (l0_2.length : Int) (wrap64 (x8_1 + 1)) a0_0 l0_1 l0_2 a0_3 l0_4 a0_5 a0_6) else (some false)) = some r := H
      have A7 := am A70
      clear A70
      by_cases c8 : t1163 = true
      ·subst c8
       have H1 : (impl_ObjOk.l0 k1 l0_2 (l0_2.length : Int) (wrap64 (x8_1 + 1)) a0_0 l0_1 l0_2 a0_3 l0_4 a0_5 a0_6) = some r := by rw [if_pos rfl] at H; exact H
       clear H
       have H := H1
       clear H1
       have H' := am H
       clear H
       have p1162 : 0 ≤ (x8_1 : Int) := od
       have q1162 : x8_1 < (l0_2.length : Int) := od
       obtain ⟨ad1162, e1162, hx1162_0⟩ := Kd.at_string HR0_2.out x8_1 p1162 q1162
       cases e1162
       replace hx1162_0 := hcw hx1162_0
       replace p1162 := eq_true p1162
       replace q1162 := eq_true q1162
       go_wp2_with (first | ((with_reducible refine gate_callee (f := 142) rfl ?_); refine goesL_ (some 13) rfl rfl Tryd.func142 (by kernel_rfl) rfl #[.string (rdOf ByteArray.empty l0_2 x8_1)] rfl ma ?_; (with_reducible refine (impl_ValueOk.calls k1 (rdOf ByteArray.empty l0_2 x8_1) true _ A7.out).mono ?_); rintro e w9 ⟨rfl, hb⟩; refine ⟨_, rfl, ?_⟩; replace BK1161 := kb BK1161 hb; replace HB := am (below_step bl hb); (try clear hb); (try clear hb2); (try clear hk); (try clear hi)))
       go_roundg k1
       case measure => have := HK1.out; omega
       case rel => exact ⟨(wrap64 (x8_1 + 1)), rs, H', ⟨by have := HK1.out; omega⟩, ⟨by (with_reducible repeat (first | refine blk_drewN ?_ _ | refine blk_drew ?_ | refine blk_alloc ?_ _)); exact BK1161.out⟩, ⟨by repeat (first | (with_reducible first | exact HB.out | apply below_alloc | apply pw_below_drewN | apply below_drew1 | refine below_set ?_ GE1161.out) | exact HB.out)⟩⟩
      ·replace c8 := Bool.eq_false_iff.mpr c8
       subst c8
       have H1 : (some false) = some r := by rw [if_neg (show ¬ (false = true) by decide)] at H; exact H
       clear H
       have H := H1
       clear H1
       obtain rfl := Option.some.inj H
       have p1162 : 0 ≤ (x8_1 : Int) := od
       have q1162 : x8_1 < (l0_2.length : Int) := od
       obtain ⟨ad1162, e1162, hx1162_0⟩ := Kd.at_string HR0_2.out x8_1 p1162 q1162
       cases e1162
       replace hx1162_0 := hcw hx1162_0
       replace p1162 := eq_true p1162
       replace q1162 := eq_true q1162
       go_wp2_with (first | ((with_reducible refine gate_callee (f := 142) rfl ?_); refine goesL_ (some 13) rfl rfl Tryd.func142 (by kernel_rfl) rfl #[.string (rdOf ByteArray.empty l0_2 x8_1)] rfl ma ?_; (with_reducible refine (impl_ValueOk.calls k1 (rdOf ByteArray.empty l0_2 x8_1) false _ A7.out).mono ?_); rintro e w10 ⟨rfl, hb⟩; refine ⟨_, rfl, ?_⟩; replace BK1161 := kb BK1161 hb; replace HB := am (below_step bl hb); (try clear hb); (try clear hb2); (try clear hk); (try clear hi)))
       go_ret
       exact ⟨rf, bl⟩
     ·rw [if_neg c6] at H
      exact absurd H (by simp)
    ·rw [if_neg c5] at H
     exact absurd H (by simp)
   ·rw [if_neg c4] at H
    have c4b0 : decide (x8_1 < (l0_2.length : Int)) = false := decide_eq_false c4
    clear c4
    have HC11 := am H
    clear H
    go_upto_region 7 with (fail)
    go_cut [46] (fun v46 wc => ∃ (kq : Nat) (x46_10 : Bool), v46 = .bool x46_10 ∧ Aside0 (impl_ObjOk.j1 kq x46_10 a0_0 l0_1 l0_2 a0_3 l0_4 a0_5 a0_6 = some r) ∧ Aside0 (kq ≤ k1) ∧ Aside0 (wc.heap[gb1161]? = some (.cells #[.string a0_0, (.slice A0_1 l0_1.length c0_1), (.slice A0_2 l0_2.length c0_2), .int .i64 a0_3, (.slice A0_4 l0_4.length c0_4), .string a0_5, .int .i64 a0_6] 76 (0, 0))) ∧ Aside0 (Below w.heap.size w wc))
    case first =>
     have H := HC11.out
     clear HC11
     replace H := ob H
     obtain ⟨t1164, A120, H⟩ := H
     replace H : (if t1164 = true then ((impl_isTime.f a0_6).bind fun t1165 => (if t1165 = true then (if (l0_2.length : Int) = (l0_1.length : Int) then ((impl_namesOk.f k1 l0_1).bind fun t1166 => (if t1166 = true then ((impl_RespOk.f k1 a0_3 l0_4 a0_5).bind fun t1167 => (impl_ObjOk.j1 k1 (!t1167) a0_0 l0_1 l0_2 a0_3 l0_4 a0_5 a0_6)) else (impl_ObjOk.j1 k1 true a0_0 l0_1 l0_2 a0_3 l0_4 a0_5 a0_6))) else (impl_ObjOk.j1 k1 true a0_0 l0_1 l0_2 a0_3 l0_4 a0_5 a0_6)) else (impl_ObjOk.j1 k1 true a0_0 l0_1 l0_2 a0_3 l0_4 a0_5 a0_6))) else (impl_ObjOk.j1 k1 true a0_0 l0_1 l0_2 a0_3 l0_4 a0_5 a0_6)) = some r := H
     have A12 := am A120
     clear A120
     by_cases c13 : t1164 = true
     ·subst c13
      have H1 : ((impl_isTime.f a0_6).bind fun t1165 => (if t1165 = true then (if (l0_2.length : Int) = (l0_1.length : Int) then ((impl_namesOk.f k1 l0_1).bind fun t1166 => (if t1166 = true then ((impl_RespOk.f k1 a0_3 l0_4 a0_5).bind fun t1167 => (impl_ObjOk.j1 k1 (!t1167) a0_0 l0_1 l0_2 a0_3 l0_4 a0_5 a0_6)) else (impl_ObjOk.j1 k1 true a0_0 l0_1 l0_2 a0_3 l0_4 a0_5 a0_6))) else (impl_ObjOk.j1 k1 true a0_0 l0_1 l0_2 a0_3 l0_4 a0_5 a0_6)) else (impl_ObjOk.j1 k1 true a0_0 l0_1 l0_2 a0_3 l0_4 a0_5 a0_6))) = some r := by rw [if_pos rfl] at H; exact H
      clear H
      have H := H1
      clear H1
      replace H := ob H
      obtain ⟨t1165, A140, H⟩ := H
      replace H : (if t1165 = true then (if (l0_2.length : Int) = (l0_1.length : Int) then ((impl_namesOk.f k1 l0_1).bind fun t1166 => (if t1166 = true then ((impl_RespOk.f k1 a0_3 l0_4 a0_5).bind fun t1167 => (impl_ObjOk.j1 k1 (!t1167) a0_0 l0_1 l0_2 a0_3 l0_4 a0_5 a0_6)) else (impl_ObjOk.j1 k1 true a0_0 l0_1 l0_2 a0_3 l0_4 a0_5 a0_6))) else (impl_ObjOk.j1 k1 true a0_0 l0_1 l0_2 a0_3 l0_4 a0_5 a0_6)) else (impl_ObjOk.j1 k1 true a0_0 l0_1 l0_2 a0_3 l0_4 a0_5 a0_6)) = some r := H
      have A14 := am A140
      clear A140
      by_cases c15 : t1165 = true
      ·subst c15
       have H1 : (if (l0_2.length : Int) = (l0_1.length : Int) then ((impl_namesOk.f k1 l0_1).bind fun t1166 => (if t1166 = true then ((impl_RespOk.f k1 a0_3 l0_4 a0_5).bind fun t1167 => (impl_ObjOk.j1 k1 (!t1167) a0_0 l0_1 l0_2 a0_3 l0_4 a0_5 a0_6)) else (impl_ObjOk.j1 k1 true a0_0 l0_1 l0_2 a0_3 l0_4 a0_5 a0_6))) else (impl_ObjOk.j1 k1 true a0_0 l0_1 l0_2 a0_3 l0_4 a0_5 a0_6)) = some r := by rw [if_pos rfl] at H; exact H
       clear H
       have H := H1
       clear H1
       by_cases c16 : (l0_2.length : Int) = (l0_1.length : Int)
       ·rw [if_pos c16] at H
        have c16b0 : ((l0_2.length : Int) == (l0_1.length : Int)) = true := beq_iff_eq.mpr c16
        have c16b1 : ((l0_2.length : Int) != (l0_1.length : Int)) = false := bne_eq_false_iff_eq.mpr c16
        have c16b2 : (l0_2.length == l0_1.length) = true := by first | simpa using c16 | (simp at c16 ⊢; omega)
        clear c16
        (first | rw [c16b0] | (simp only [i64_w, i32_w]; rw [c16b0]) | skip)
        replace H := ob H
        obtain ⟨t1166, A170, H⟩ := H
        replace H : (if t1166 = true then ((impl_RespOk.f k1 a0_3 l0_4 a0_5).bind fun t1167 => (impl_ObjOk.j1 k1 (!t1167) a0_0 l0_1 l0_2 a0_3 l0_4 a0_5 a0_6)) else (impl_ObjOk.j1 k1 true a0_0 l0_1 l0_2 a0_3 l0_4 a0_5 a0_6)) = some r := H
        have A17 := am A170
        clear A170
        by_cases c18 : t1166 = true
        ·subst c18
         have H1 : ((impl_RespOk.f k1 a0_3 l0_4 a0_5).bind fun t1167 => (impl_ObjOk.j1 k1 (!t1167) a0_0 l0_1 l0_2 a0_3 l0_4 a0_5 a0_6)) = some r := by rw [if_pos rfl] at H; exact H
         clear H
         have H := H1
         clear H1
         replace H := ob H
         obtain ⟨t1167, A190, H⟩ := H
         replace H : (impl_ObjOk.j1 k1 (!t1167) a0_0 l0_1 l0_2 a0_3 l0_4 a0_5 a0_6) = some r := H
         have A19 := am A190
         clear A190
         have H' := am H
         clear H
         have hcz20_0 : wr.cell? ⟨gb1161, 0, none⟩ = some (.string a0_0) := bc BK1161
         have hcz20_1 : wr.cell? ⟨gb1161, 1, none⟩ = some (.slice A0_1 l0_1.length c0_1) := bc BK1161
         have hcz20_2 : wr.cell? ⟨gb1161, 2, none⟩ = some (.slice A0_2 l0_2.length c0_2) := bc BK1161
         have hcz20_3 : wr.cell? ⟨gb1161, 3, none⟩ = some (.int .i64 a0_3) := bc BK1161
         have hcz20_4 : wr.cell? ⟨gb1161, 4, none⟩ = some (.slice A0_4 l0_4.length c0_4) := bc BK1161
         have hcz20_5 : wr.cell? ⟨gb1161, 5, none⟩ = some (.string a0_5) := bc BK1161
         have hcz20_6 : wr.cell? ⟨gb1161, 6, none⟩ = some (.int .i64 a0_6) := bc BK1161
         have hfz20_0 := blk_frozen BK1161.out 0
         have hfz20_1 := blk_frozen BK1161.out 1
         have hfz20_2 := blk_frozen BK1161.out 2
         have hfz20_3 := blk_frozen BK1161.out 3
         have hfz20_4 := blk_frozen BK1161.out 4
         have hfz20_5 := blk_frozen BK1161.out 5
         have hfz20_6 := blk_frozen BK1161.out 6
         go_wp2_with (first | ((with_reducible refine gate_callee (f := 119) rfl ?_); refine goesL_ (some 18) rfl rfl Tryd.func119 (by kernel_rfl) rfl #[.string a0_0] rfl ma ?_; (with_reducible refine (impl_pathOk.calls k1 a0_0 true _ A12.out).mono ?_); rintro e w' ⟨rfl, ⟨nd, rfl⟩⟩; refine ⟨_, rfl, ?_⟩) | (go_at_call 143; (with_reducible refine (impl_isTime.calls a0_6 true _ A14.out).mono ?_); rintro e w' ⟨rfl, ⟨nd, rfl⟩⟩) | (go_at_call 144; (with_reducible refine (impl_namesOk.calls k1 _ _ l0_1 true _ ?side1 ?side2 A17.out).mono ?_); (case side1 => repeat (first | exact (Kd.C_below HR0_1.out bl) | (with_reducible refine Kd.C_alloc ?_ _) | (with_reducible refine Kd.C_drewN ?_ _) | (with_reducible refine Kd.C_drew ?_))); (case side2 => exact HC0_1.out); rintro e w' ⟨rfl, ⟨nd, rfl⟩⟩) | (go_at_call 123; (with_reducible refine (impl_RespOk.calls k1 a0_3 _ _ l0_4 a0_5 t1167 _ ?side1 ?side2 A19.out).mono ?_); (case side1 => repeat (first | exact (Kd.C_below HR0_4.out bl) | (with_reducible refine Kd.C_alloc ?_ _) | (with_reducible refine Kd.C_drewN ?_ _) | (with_reducible refine Kd.C_drew ?_))); (case side2 => exact HC0_4.out); rintro e w21 ⟨rfl, hb⟩; replace BK1161 := kb BK1161 hb; replace HB := am (below_step bl hb); (try clear hb); (try clear hb2); (try clear hk); (try clear hi)))
         go_meet
         case rel => exact ⟨_, (!t1167), rs, H', ⟨by have := HK1.out; first | omega | exact Nat.le_refl _⟩, ⟨by (with_reducible repeat (first | refine blk_drewN ?_ _ | refine blk_drew ?_ | refine blk_alloc ?_ _)); exact BK1161.out⟩, ⟨by repeat (first | (with_reducible first | exact HB.out | apply below_alloc | apply pw_below_drewN | apply below_drew1 | refine below_set ?_ GE1161.out) | exact HB.out)⟩⟩
        ·replace c18 := Bool.eq_false_iff.mpr c18
         subst c18
         have H1 : (impl_ObjOk.j1 k1 true a0_0 l0_1 l0_2 a0_3 l0_4 a0_5 a0_6) = some r := by rw [if_neg (show ¬ (false = true) by decide)] at H; exact H
         clear H
         have H := H1
         clear H1
         have H' := am H
         clear H
         have hcz22_0 : wr.cell? ⟨gb1161, 0, none⟩ = some (.string a0_0) := bc BK1161
         have hcz22_1 : wr.cell? ⟨gb1161, 1, none⟩ = some (.slice A0_1 l0_1.length c0_1) := bc BK1161
         have hcz22_2 : wr.cell? ⟨gb1161, 2, none⟩ = some (.slice A0_2 l0_2.length c0_2) := bc BK1161
         have hcz22_3 : wr.cell? ⟨gb1161, 3, none⟩ = some (.int .i64 a0_3) := bc BK1161
         have hcz22_4 : wr.cell? ⟨gb1161, 4, none⟩ = some (.slice A0_4 l0_4.length c0_4) := bc BK1161
         have hcz22_5 : wr.cell? ⟨gb1161, 5, none⟩ = some (.string a0_5) := bc BK1161
         have hcz22_6 : wr.cell? ⟨gb1161, 6, none⟩ = some (.int .i64 a0_6) := bc BK1161
         have hfz22_0 := blk_frozen BK1161.out 0
         have hfz22_1 := blk_frozen BK1161.out 1
         have hfz22_2 := blk_frozen BK1161.out 2
         have hfz22_3 := blk_frozen BK1161.out 3
         have hfz22_4 := blk_frozen BK1161.out 4
         have hfz22_5 := blk_frozen BK1161.out 5
         have hfz22_6 := blk_frozen BK1161.out 6
         go_wp2_with (first | ((with_reducible refine gate_callee (f := 119) rfl ?_); refine goesL_ (some 18) rfl rfl Tryd.func119 (by kernel_rfl) rfl #[.string a0_0] rfl ma ?_; (with_reducible refine (impl_pathOk.calls k1 a0_0 true _ A12.out).mono ?_); rintro e w' ⟨rfl, ⟨nd, rfl⟩⟩; refine ⟨_, rfl, ?_⟩) | (go_at_call 143; (with_reducible refine (impl_isTime.calls a0_6 true _ A14.out).mono ?_); rintro e w' ⟨rfl, ⟨nd, rfl⟩⟩) | (go_at_call 144; (with_reducible refine (impl_namesOk.calls k1 _ _ l0_1 false _ ?side1 ?side2 A17.out).mono ?_); (case side1 => repeat (first | exact (Kd.C_below HR0_1.out bl) | (with_reducible refine Kd.C_alloc ?_ _) | (with_reducible refine Kd.C_drewN ?_ _) | (with_reducible refine Kd.C_drew ?_))); (case side2 => exact HC0_1.out); rintro e w' ⟨rfl, ⟨nd, rfl⟩⟩))
         go_meet
         case rel => exact ⟨_, (true), rs, H', ⟨by have := HK1.out; first | omega | exact Nat.le_refl _⟩, ⟨by (with_reducible repeat (first | refine blk_drewN ?_ _ | refine blk_drew ?_ | refine blk_alloc ?_ _)); exact BK1161.out⟩, ⟨by repeat (first | (with_reducible first | exact HB.out | apply below_alloc | apply pw_below_drewN | apply below_drew1 | refine below_set ?_ GE1161.out) | exact HB.out)⟩⟩
       ·rw [if_neg c16] at H
        have c16b0 : ((l0_2.length : Int) == (l0_1.length : Int)) = false := beq_eq_false_iff_ne.mpr c16
        have c16b1 : ((l0_2.length : Int) != (l0_1.length : Int)) = true := bne_iff_ne.mpr c16
        have c16b2 : (l0_2.length == l0_1.length) = false := by first | simpa using c16 | (simp at c16 ⊢; omega)
        (first | rw [c16b0] | (simp only [i64_w, i32_w]; rw [c16b0]) | skip)
        have H' := am H
        clear H
        have hcz23_0 : wr.cell? ⟨gb1161, 0, none⟩ = some (.string a0_0) := bc BK1161
        have hcz23_1 : wr.cell? ⟨gb1161, 1, none⟩ = some (.slice A0_1 l0_1.length c0_1) := bc BK1161
        have hcz23_2 : wr.cell? ⟨gb1161, 2, none⟩ = some (.slice A0_2 l0_2.length c0_2) := bc BK1161
        have hcz23_3 : wr.cell? ⟨gb1161, 3, none⟩ = some (.int .i64 a0_3) := bc BK1161
        have hcz23_4 : wr.cell? ⟨gb1161, 4, none⟩ = some (.slice A0_4 l0_4.length c0_4) := bc BK1161
        have hcz23_5 : wr.cell? ⟨gb1161, 5, none⟩ = some (.string a0_5) := bc BK1161
        have hcz23_6 : wr.cell? ⟨gb1161, 6, none⟩ = some (.int .i64 a0_6) := bc BK1161
        have hfz23_0 := blk_frozen BK1161.out 0
        have hfz23_1 := blk_frozen BK1161.out 1
        have hfz23_2 := blk_frozen BK1161.out 2
        have hfz23_3 := blk_frozen BK1161.out 3
        have hfz23_4 := blk_frozen BK1161.out 4
        have hfz23_5 := blk_frozen BK1161.out 5
        have hfz23_6 := blk_frozen BK1161.out 6
        go_wp2_with (first | ((with_reducible refine gate_callee (f := 119) rfl ?_); refine goesL_ (some 18) rfl rfl Tryd.func119 (by kernel_rfl) rfl #[.string a0_0] rfl ma ?_; (with_reducible refine (impl_pathOk.calls k1 a0_0 true _ A12.out).mono ?_); rintro e w' ⟨rfl, ⟨nd, rfl⟩⟩; refine ⟨_, rfl, ?_⟩) | (go_at_call 143; (with_reducible refine (impl_isTime.calls a0_6 true _ A14.out).mono ?_); rintro e w' ⟨rfl, ⟨nd, rfl⟩⟩))
        go_meet
        case rel => exact ⟨_, (true), rs, H', ⟨by have := HK1.out; first | omega | exact Nat.le_refl _⟩, ⟨by (with_reducible repeat (first | refine blk_drewN ?_ _ | refine blk_drew ?_ | refine blk_alloc ?_ _)); exact BK1161.out⟩, ⟨by repeat (first | (with_reducible first | exact HB.out | apply below_alloc | apply pw_below_drewN | apply below_drew1 | refine below_set ?_ GE1161.out) | exact HB.out)⟩⟩
      ·replace c15 := Bool.eq_false_iff.mpr c15
       subst c15
       have H1 : (impl_ObjOk.j1 k1 true a0_0 l0_1 l0_2 a0_3 l0_4 a0_5 a0_6) = some r := by rw [if_neg (show ¬ (false = true) by decide)] at H; exact H
       clear H
       have H := H1
       clear H1
       have H' := am H
       clear H
       have hcz24_0 : wr.cell? ⟨gb1161, 0, none⟩ = some (.string a0_0) := bc BK1161
       have hcz24_1 : wr.cell? ⟨gb1161, 1, none⟩ = some (.slice A0_1 l0_1.length c0_1) := bc BK1161
       have hcz24_2 : wr.cell? ⟨gb1161, 2, none⟩ = some (.slice A0_2 l0_2.length c0_2) := bc BK1161
       have hcz24_3 : wr.cell? ⟨gb1161, 3, none⟩ = some (.int .i64 a0_3) := bc BK1161
       have hcz24_4 : wr.cell? ⟨gb1161, 4, none⟩ = some (.slice A0_4 l0_4.length c0_4) := bc BK1161
       have hcz24_5 : wr.cell? ⟨gb1161, 5, none⟩ = some (.string a0_5) := bc BK1161
       have hcz24_6 : wr.cell? ⟨gb1161, 6, none⟩ = some (.int .i64 a0_6) := bc BK1161
       have hfz24_0 := blk_frozen BK1161.out 0
       have hfz24_1 := blk_frozen BK1161.out 1
       have hfz24_2 := blk_frozen BK1161.out 2
       have hfz24_3 := blk_frozen BK1161.out 3
       have hfz24_4 := blk_frozen BK1161.out 4
       have hfz24_5 := blk_frozen BK1161.out 5
       have hfz24_6 := blk_frozen BK1161.out 6
       go_wp2_with (first | ((with_reducible refine gate_callee (f := 119) rfl ?_); refine goesL_ (some 18) rfl rfl Tryd.func119 (by kernel_rfl) rfl #[.string a0_0] rfl ma ?_; (with_reducible refine (impl_pathOk.calls k1 a0_0 true _ A12.out).mono ?_); rintro e w' ⟨rfl, ⟨nd, rfl⟩⟩; refine ⟨_, rfl, ?_⟩) | (go_at_call 143; (with_reducible refine (impl_isTime.calls a0_6 false _ A14.out).mono ?_); rintro e w' ⟨rfl, ⟨nd, rfl⟩⟩))
       go_meet
       case rel => exact ⟨_, (true), rs, H', ⟨by have := HK1.out; first | omega | exact Nat.le_refl _⟩, ⟨by (with_reducible repeat (first | refine blk_drewN ?_ _ | refine blk_drew ?_ | refine blk_alloc ?_ _)); exact BK1161.out⟩, ⟨by repeat (first | (with_reducible first | exact HB.out | apply below_alloc | apply pw_below_drewN | apply below_drew1 | refine below_set ?_ GE1161.out) | exact HB.out)⟩⟩
     ·replace c13 := Bool.eq_false_iff.mpr c13
      subst c13
      have H1 : (impl_ObjOk.j1 k1 true a0_0 l0_1 l0_2 a0_3 l0_4 a0_5 a0_6) = some r := by rw [if_neg (show ¬ (false = true) by decide)] at H; exact H
      clear H
      have H := H1
      clear H1
      have H' := am H
      clear H
      have hcz25_0 : wr.cell? ⟨gb1161, 0, none⟩ = some (.string a0_0) := bc BK1161
      have hcz25_1 : wr.cell? ⟨gb1161, 1, none⟩ = some (.slice A0_1 l0_1.length c0_1) := bc BK1161
      have hcz25_2 : wr.cell? ⟨gb1161, 2, none⟩ = some (.slice A0_2 l0_2.length c0_2) := bc BK1161
      have hcz25_3 : wr.cell? ⟨gb1161, 3, none⟩ = some (.int .i64 a0_3) := bc BK1161
      have hcz25_4 : wr.cell? ⟨gb1161, 4, none⟩ = some (.slice A0_4 l0_4.length c0_4) := bc BK1161
      have hcz25_5 : wr.cell? ⟨gb1161, 5, none⟩ = some (.string a0_5) := bc BK1161
      have hcz25_6 : wr.cell? ⟨gb1161, 6, none⟩ = some (.int .i64 a0_6) := bc BK1161
      have hfz25_0 := blk_frozen BK1161.out 0
      have hfz25_1 := blk_frozen BK1161.out 1
      have hfz25_2 := blk_frozen BK1161.out 2
      have hfz25_3 := blk_frozen BK1161.out 3
      have hfz25_4 := blk_frozen BK1161.out 4
      have hfz25_5 := blk_frozen BK1161.out 5
      have hfz25_6 := blk_frozen BK1161.out 6
      go_wp2_with (first | ((with_reducible refine gate_callee (f := 119) rfl ?_); refine goesL_ (some 18) rfl rfl Tryd.func119 (by kernel_rfl) rfl #[.string a0_0] rfl ma ?_; (with_reducible refine (impl_pathOk.calls k1 a0_0 false _ A12.out).mono ?_); rintro e w' ⟨rfl, ⟨nd, rfl⟩⟩; refine ⟨_, rfl, ?_⟩))
      go_meet
      case rel => exact ⟨_, (true), rs, H', ⟨by have := HK1.out; first | omega | exact Nat.le_refl _⟩, ⟨by (with_reducible repeat (first | refine blk_drewN ?_ _ | refine blk_drew ?_ | refine blk_alloc ?_ _)); exact BK1161.out⟩, ⟨by repeat (first | (with_reducible first | exact HB.out | apply below_alloc | apply pw_below_drewN | apply below_drew1 | refine below_set ?_ GE1161.out) | exact HB.out)⟩⟩
    case rest =>
     clear HC11
     try clear c1
     try clear p1
     try clear q1
     try clear hx1
     try clear p2
     try clear c4
     try clear c4b0
     try clear c5
     try clear c5b0
     try clear c6
     try clear c6b0
     try clear p6
     try clear c8
     try clear c11
     try clear p11
     try clear q11
     try clear hx11
     try clear c13
     try clear c14
     try clear c15
     try clear c16
     try clear c16b0
     try clear c16b1
     try clear c16b2
     try clear c18
     try clear hcz20_0
     try clear hcz20_1
     try clear hcz20_2
     try clear hcz20_3
     try clear hcz20_4
     try clear hcz20_5
     try clear hcz20_6
     try clear hcz22_0
     try clear hcz22_1
     try clear hcz22_2
     try clear hcz22_3
     try clear hcz22_4
     try clear hcz22_5
     try clear hcz22_6
     try clear hcz23_0
     try clear hcz23_1
     try clear hcz23_2
     try clear hcz23_3
     try clear hcz23_4
     try clear hcz23_5
     try clear hcz23_6
     try clear hcz24_0
     try clear hcz24_1
     try clear hcz24_2
     try clear hcz24_3
     try clear hcz24_4
     try clear hcz24_5
     try clear hcz24_6
     try clear hcz25_0
     try clear hcz25_1
     try clear hcz25_2
     try clear hcz25_3
     try clear hcz25_4
     try clear hcz25_5
     try clear hcz25_6
     try clear hcz3_0
     try clear hcz3_1
     try clear hcz3_2
     try clear hcz3_3
     try clear hcz3_4
     try clear hcz3_5
     try clear hcz3_6
     try clear hfz20_0
     try clear hfz20_1
     try clear hfz20_2
     try clear hfz20_3
     try clear hfz20_4
     try clear hfz20_5
     try clear hfz20_6
     try clear hfz22_0
     try clear hfz22_1
     try clear hfz22_2
     try clear hfz22_3
     try clear hfz22_4
     try clear hfz22_5
     try clear hfz22_6
     try clear hfz23_0
     try clear hfz23_1
     try clear hfz23_2
     try clear hfz23_3
     try clear hfz23_4
     try clear hfz23_5
     try clear hfz23_6
     try clear hfz24_0
     try clear hfz24_1
     try clear hfz24_2
     try clear hfz24_3
     try clear hfz24_4
     try clear hfz24_5
     try clear hfz24_6
     try clear hfz25_0
     try clear hfz25_1
     try clear hfz25_2
     try clear hfz25_3
     try clear hfz25_4
     try clear hfz25_5
     try clear hfz25_6
     try clear hfz3_0
     try clear hfz3_1
     try clear hfz3_2
     try clear hfz3_3
     try clear hfz3_4
     try clear hfz3_5
     try clear hfz3_6
     try clear hx1162_0
     try clear p1162
     try clear p2
     try clear q1162
     obtain ⟨kq, x46_10, rfl, HA, HJ10, BK1161, HB⟩ := hcut
     cases kq with
     | zero => exact absurd HA.out (by simp [impl_ObjOk.j1])
     | succ kj10 =>
      have H := HA.out
      clear HA
      simp only [impl_ObjOk.j1] at H
      by_cases c26 : x46_10 = true
      ·subst c26
       have H1 : (some false) = some r := by rw [if_pos rfl] at H; exact H
       clear H
       have H := H1
       clear H1
       obtain rfl := Option.some.inj H
       go_wp2
       go_ret
       exact ⟨rf, bl⟩
      ·replace c26 := Bool.eq_false_iff.mpr c26
       subst c26
       have H1 : ((impl_VaryOf.f kj10 l0_4).bind fun t1168 => ((slices_Equal_string_string.f kj10 l0_1 t1168).bind fun t1171 => (some t1171))) = some r := by rw [if_neg (show ¬ (false = true) by decide)] at H; exact H
       clear H
       have H := H1
       clear H1
       replace H := ob H
       obtain ⟨t1168, A270, H⟩ := H
       replace H : ((slices_Equal_string_string.f kj10 l0_1 t1168).bind fun t1171 => (some t1171)) = some r := H
       have A27 := am A270
       clear A270
       replace H := ob H
       obtain ⟨t1171, A280, H⟩ := H
       replace H : (some t1171) = some r := H
       have A28 := am A280
       clear A280
       obtain rfl := Option.some.inj H
       try go_wp2
       replace BK1161 := am (blk_drew BK1161.out)
       replace HB := am (below_drew1 HB.out)
       refine start_ (n := 8) (S := fun w' => w'.cell? ⟨gb1161, 0, none⟩ = some (.string a0_0) ∧ w'.cell? ⟨gb1161, 1, none⟩ = some (.slice A0_1 l0_1.length c0_1) ∧ w'.cell? ⟨gb1161, 2, none⟩ = some (.slice A0_2 l0_2.length c0_2) ∧ w'.cell? ⟨gb1161, 3, none⟩ = some (.int .i64 a0_3) ∧ w'.cell? ⟨gb1161, 4, none⟩ = some (.slice A0_4 l0_4.length c0_4) ∧ w'.cell? ⟨gb1161, 5, none⟩ = some (.string a0_5) ∧ w'.cell? ⟨gb1161, 6, none⟩ = some (.int .i64 a0_6)) (ds := []) #[false, false, false, false, false, false, false, false] (by kernel_rfl) rfl rfl ⟨bc BK1161, bc BK1161, bc BK1161, bc BK1161, bc BK1161, bc BK1161, bc BK1161⟩ (fun hHeld => ?_); refine with_tabW impl_ObjOk.tab9 impl_ObjOk.bits9 (fun HT_ HW_ => ?_)
       generalize wc.drew = w29 at BK1161 HB hHeld ⊢
       refine pure_ (i := 0) (N := some 47) (v := ?_) (a' := ?_) #[true, false, false, false, false, false, false, false] rfl rfl (any_of HT_.out (by kernel_rfl)) (fun _ _ _ h => h) (Or.inl ⟨by rfl, ?_⟩) ?_ ?_
       rotate_left
       ·intro w'
        go_simp
        with_reducible rfl
       rotate_left
       ·simp only [Act.put, List.setIfInBounds_toArray, List.set_cons_zero, List.set_cons_succ, i64_w, i32_w]
        rfl
       refine pure_ (i := 2) (N := some 49) (v := ?_) (a' := ?_) #[true, false, true, false, false, false, false, false] rfl rfl (any_of HT_.out (by kernel_rfl)) (fun _ _ _ h => h) (Or.inl ⟨by rfl, ?_⟩) ?_ ?_
       rotate_left
       ·intro w'
        go_simp
        with_reducible rfl
       rotate_left
       ·simp only [Act.put, List.setIfInBounds_toArray, List.set_cons_zero, List.set_cons_succ, i64_w, i32_w]
        rfl
       refine pure_ (i := 3) (N := some 50) (v := ?_) (a' := ?_) #[true, false, true, true, false, false, false, false] rfl rfl (any_of HT_.out (by kernel_rfl)) (fun _ _ _ h => h) (Or.inl ⟨by rfl, ?_⟩) ?_ ?_
       rotate_left
       ·intro w'
        go_simp
        with_reducible rfl
       rotate_left
       ·simp only [Act.put, List.setIfInBounds_toArray, List.set_cons_zero, List.set_cons_succ, i64_w, i32_w]
        rfl
       refine take_ (i := 1) (N := some 48) (v := ?_) (a' := ?_) #[true, true, true, true, false, false, false, false] rfl rfl (take_ofW HT_.out HW_.out (by kernel_rfl)) (fun _ _ _ h => h) (Or.inl ⟨by rfl, ?_⟩) hHeld ?_ ?_
       rotate_left
       ·rintro w' ⟨s0, s1, s2, s3, s4, s5, s6⟩
        go_simp
        with_reducible rfl
       rotate_left
       ·simp only [Act.put, List.setIfInBounds_toArray, List.set_cons_zero, List.set_cons_succ, i64_w, i32_w]
        rfl
       refine take_ (i := 4) (N := some 51) (v := ?_) (a' := ?_) #[true, true, true, true, true, false, false, false] rfl rfl (take_ofW HT_.out HW_.out (by kernel_rfl)) (fun _ _ _ h => h) (Or.inl ⟨by rfl, ?_⟩) hHeld ?_ ?_
       rotate_left
       ·rintro w' ⟨s0, s1, s2, s3, s4, s5, s6⟩
        go_simp
        with_reducible rfl
       rotate_left
       ·simp only [Act.put, List.setIfInBounds_toArray, List.set_cons_zero, List.set_cons_succ, i64_w, i32_w]
        rfl
       refine one_ (i := 5) (N := some 52) #[true, true, true, true, true, true, false, false] rfl rfl (one_of HT_.out (by kernel_rfl)) (by decide) (fun K hK => ?_)
       refine goes_ Tryd.func20 (by kernel_rfl) rfl #[.slice A0_4 l0_4.length c0_4] (by rfl) rfl rfl ma ?_
       with_reducible refine (impl_VaryOf.calls kj10 _ _ l0_4 t1168 _ ?side1 ?side2 ?side3 A27.out).mono ?_
       (case side1 => exact GLOBM.below HGM.out bl)
       (case side2 => exact cb HR0_4)
       (case side3 => exact HC0_4.out)
       rintro e w30 ⟨v1169, rfl, ho0, hb⟩
       refine ⟨_, rfl, ?_⟩
       have HO1170 := am (Kd.R_lower ho0 (below_size bl))
       replace BK1161 := kb BK1161 hb
       replace HB := am (below_step bl hb)
       (try clear hb)
       (try clear hb2)
       (try clear hk)
       (try clear hi)
       (try clear ho0)
       obtain ⟨Ao31, co31, eo31⟩ := Kd.R_slice HO1170.out
       (first | subst eo31 | (injection eo31 with f1_ f2_ f3_; have f4_ := f1_.symm; have f5_ := f3_.symm; clear f1_ f2_ f3_; subst f4_; subst f5_))
       refine hK.out _ _ ⟨bc BK1161, bc BK1161, bc BK1161, bc BK1161, bc BK1161, bc BK1161, bc BK1161⟩ (fun hHeld => ?_)
       clear hK K
       refine norm_ (a' := ?_) ?_ ?_
       rotate_left
       ·show Act.put _ (some 52) _ = _
        simp only [Act.put, List.setIfInBounds_toArray, List.set_cons_zero, List.set_cons_succ, i64_w, i32_w]
        rfl
       refine one_ (i := 6) (N := some 53) #[true, true, true, true, true, true, true, false] rfl rfl (one_of HT_.out (by kernel_rfl)) (by decide) (fun K hK => ?_)
       refine goes_ Tryd.func131 (by kernel_rfl) rfl #[.slice A0_1 l0_1.length c0_1, .slice Ao31 t1168.length co31] (by rfl) rfl rfl ma ?_
       with_reducible refine (slices_Equal_string_string.calls kj10 _ _ l0_1 _ _ t1168 t1171 _ ?side1 ?side2 ?side3 ?side4 A28.out).mono ?_
       (case side1 => exact cb HR0_1)
       (case side2 => exact HC0_1.out)
       (case side3 => exact rc HO1170)
       (case side4 => exact (Kd.R_reads' HO1170.out).2.1)
       rintro e w' ⟨rfl, ⟨nd, rfl⟩⟩
       refine ⟨_, rfl, ?_⟩
       refine hK.out _ _ ⟨bc BK1161, bc BK1161, bc BK1161, bc BK1161, bc BK1161, bc BK1161, bc BK1161⟩ (fun hHeld => ?_)
       clear hK K
       refine norm_ (a' := ?_) ?_ ?_
       rotate_left
       ·show Act.put _ (some 53) _ = _
        simp only [Act.put, List.setIfInBounds_toArray, List.set_cons_zero, List.set_cons_succ, i64_w, i32_w]
        rfl
       refine pure_ (i := 7) (N := some 2) (v := ?_) (a' := ?_) #[true, true, true, true, true, true, true, true] rfl rfl (any_of HT_.out (by kernel_rfl)) (fun _ _ _ h => h) (Or.inl ⟨by rfl, ?_⟩) ?_ ?_
       rotate_left
       ·intro w'
        go_simp
        with_reducible rfl
       rotate_left
       ·simp only [Act.put, List.setIfInBounds_toArray, List.set_cons_zero, List.set_cons_succ, i64_w, i32_w]
        rfl
       refine done_ (done_of HT_.out (by kernel_rfl)) ?_
       try go_wp2
       go_ret
       exact ⟨rf, bl⟩

end Go.Proofs.YtiinmfjbildclaaDoor.All
