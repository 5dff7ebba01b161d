-- Written by a program of this session (wip/tools/hprint.py) out of the translation. Lean checks it.
import Derived.Test.YtjckfmipegemcaaGreatDoorKPiecesAllx0
import Derived.Test.YtjckfmipegemcaaGreatDoorKPiecesAllx1
import Derived.Test.YtjckfmipegemcaaGreatDoorKPiecesAllx3
namespace Go.Proofs.YtjckfmipegemcaaGreatDoor.All
open Go.RowKit Go.Proofs.YtjckfmipegemcaaGreatDoorW.PrintWords Go.Proofs.YtjckfmipegemcaaGreatDoorW.PrintLast Go.Proofs.YtjckfmipegemcaaGreatDoorW.PrintMore
attribute [local go_sem] max2_int min2_int max_two min_two max_three min_three max_four min_four  -- for this text's walks alone
set_option linter.unusedVariables false
set_option linter.unusedSimpArgs false

/-! ### impl.Feed: request behind request -/
def impl_Feed.l0 : Nat → ByteArray → Bool → List S40 → Option (ByteArray × Bool × List S40)
 | 0, _, _, _ => none
 | k + 1, x0, x1, xs => (impl_Stream_next.f k x0 x1).bind fun t => if t.2.2.2.2.1 = true then (if xs.length < 2199023255552 then impl_Feed.l0 k t.2.2.2.2.2.1 t.2.2.2.2.2.2 (xs ++ [(⟨t.1, t.2.1, t.2.2.1, t.2.2.2.1⟩ : S40)]) else none) else if t.2.2.2.2.2.2 = true then some (⟨#[]⟩, true, xs) else some (t.2.2.2.2.2.1, false, xs)
def impl_Feed.f (k : Nat) (a0_0 : ByteArray) (a0_1 : Bool) (a1 : ByteArray) : Option (ByteArray × Bool × List S40) := if a0_1 = true then some (⟨#[]⟩, true, []) else if a0_0.size + a1.size ≤ 9223372036854775807 then impl_Feed.l0 k (a0_0 ++ a1) a0_1 [] else none
set_option maxHeartbeats 8000000 in
set_option maxRecDepth 100000 in
theorem impl_Feed.calls (k : Nat) (a0_0 : ByteArray) (a0_1 : Bool) (a1 : ByteArray) (r1 : ByteArray) (r2 : Bool) (r3 : List S40) (w : World) (hGE : GLOBE w) (hGM : GLOBM w) (hGT : GLOBT w) (h : impl_Feed.f k a0_0 a0_1 a1 = some (r1, r2, r3)) :
  Calls Tryz.prog 9 #[.agg #[.string a0_0, .bool a0_1], .string a1] w fun e w' => ∃ v2_ : Value, e = .returned (.tuple #[.agg #[.string r1, .bool r2], v2_]) ∧ Kd.S k40 40 w' w.heap.size (fun _ => True) v2_ r3 ∧ Below w.heap.size w w' := by
 have hu25 := Tryz.underlying25
 have hu40 := Tryz.underlying40
 have HGE := am hGE
 have HGM := am hGM
 have HGT := am hGT
 have HH := am h
 clear hGE hGM hGT h
 have HB := am (Below.refl w.heap.size w)
 go_enter Tryz.func9, Tryz.ntmps9
 go_upto_if 10 with ((with_reducible refine gw ?_); first | (refine bx 2 #[.string a0_0, .bool a0_1] 25 ?_; intro gs hgs w2 hbs hb; have HBS := am hbs; have GS := am ((by rw [hgs]; exact (below_size bl) : w.heap.size ≤ gs)); replace HB := am (below_step bl hb); clear hb hbs hgs) | (refine bx 4 #[.string (⟨#[]⟩ : ByteArray), .bool false] 25 ?_; intro gr hgr w3 hbr hb; have NE := am ((by rw [hgr]; exact Nat.ne_of_lt (blk_lt (g := gs) (o := .cells #[.string a0_0, .bool a0_1] 25 (0, 0)) (bk HBS)) : gs ≠ gr)); replace HBS := kb HBS hb; have HBR := am hbr; have GR := am ((by rw [hgr]; exact (below_size bl) : w.heap.size ≤ gr)); replace HB := am (below_step bl hb); clear hb hbr hgr; have hcz0 : w3.cell? ⟨gs, 0, none⟩ = some (.string a0_0) := (blk_cell HBS.out 0).trans rfl; have hcz1 : w3.cell? ⟨gs, 1, none⟩ = some (.bool a0_1) := (blk_cell HBS.out 1).trans rfl; have hfz0 := blk_frozen HBS.out 0; have hfz1 := blk_frozen HBS.out 1))
 have hd0 : w3.cell? ⟨gr, 0, none⟩ = some (.string (⟨#[]⟩ : ByteArray)) := (blk_cell HBR.out 0).trans rfl
 have hd1 : w3.cell? ⟨gr, 1, none⟩ = some (.bool false) := (blk_cell HBR.out 1).trans rfl
 have hz0 := blk_frozen HBR.out 0
 have hz1 := blk_frozen HBR.out 1
 have ne1 := NE.out
 have ne2 := Ne.symm NE.out
 have NE2 := am ne2
 have H := HH.out
 clear HH
 unfold impl_Feed.f at H
 by_cases c : a0_1 = true
 ·subst c
  rw [if_pos rfl] at H
  simp only [Option.some.injEq, Prod.mk.injEq] at H
  obtain ⟨rfl, rfl, rfl⟩ := H
  go_wp2
  refine bodyPost_ret (results_ct rfl _ _ gr 25 #[.string (⟨#[]⟩ : ByteArray), .bool true] (0, 0) _ rfl (by (with_reducible repeat (first | refine blk_drewN ?_ _ | refine blk_drew ?_ | refine blk_alloc ?_ _)); refine blk_put (cs := #[.string (⟨#[]⟩ : ByteArray), .bool false]) ?_ 1 _ rfl; refine blk_put (cs := #[.string (⟨#[]⟩ : ByteArray), .bool false]) ?_ 0 _ rfl; (with_reducible repeat (first | refine blk_drewN ?_ _ | refine blk_drew ?_ | refine blk_alloc ?_ _)); exact HBR.out) Tryz.underlying25 rfl (by kernel_rfl)) rfl ?_
  exact ⟨_, rfl, Kd.S_nil _ _ _ _ _, by repeat (first | (with_reducible first | exact HB.out | apply below_alloc | apply pw_below_drewN | apply below_drew1 | refine below_set ?_ GR.out) | exact HB.out)⟩
 replace c := Bool.eq_false_iff.mpr c
 subst c
 rw [if_neg (by simp)] at H
 by_cases c20 : a0_0.size + a1.size ≤ 9223372036854775807
 case neg => rw [if_neg c20] at H; cases H
 rw [if_pos c20] at H
 have c20b0 := eq_true c20
 have c20b1 := decide_eq_true c20
 have c20b2 : (9223372036854775807 < a0_0.size + a1.size) = False := eq_false (Nat.not_lt.2 c20)
 have H' := am H
 clear H
 go_wp2
 have HIS : Aside0 (IsS25 w (w3.setCell ⟨gs, 0, none⟩ (.string (a0_0 ++ a1))) gs (a0_0 ++ a1) false) := ⟨IsS25.set_0 ⟨HBS.out, GS.out⟩ _⟩
 have HBR2 : Aside0 ((w3.setCell ⟨gs, 0, none⟩ (.string (a0_0 ++ a1))).heap[gr]? = some (.cells #[.string (⟨#[]⟩ : ByteArray), .bool false] 25 (0, 0))) := ⟨blk_far HBR.out (p := ⟨gs, 0, none⟩) ne2 _⟩
 have HB2 : Aside0 (Below w.heap.size w (w3.setCell ⟨gs, 0, none⟩ (.string (a0_0 ++ a1)))) := ⟨below_set HB.out GS.out⟩
 clear hcz0 hcz1 hfz0 hfz1 hd0 hd1 hz0 hz1 c20b0 c20b1 c20b2 c20 HB HBS HBR
 (try simp only [Act.put, List.setIfInBounds_toArray, List.set_cons_zero, List.set_cons_succ])
 go_loopg [6] k (fun kq v6 w' => ∃ (x0 : ByteArray) (x1 : Bool) (xs : List S40), Aside0 (impl_Feed.l0 kq x0 x1 xs = some (r1, r2, r3)) ∧ Aside0 (kq ≤ k) ∧ Aside0 (Kd.S k40 40 w' w.heap.size (fun _ => True) v6 xs) ∧ Aside0 (w'.heap[gr]? = some (.cells #[.string (⟨#[]⟩ : ByteArray), .bool false] 25 (0, 0))) ∧ Aside0 (IsS25 w w' gs x0 x1) ∧ Aside0 (Below w.heap.size w w'))
 case atStart => exact ⟨a0_0 ++ a1, false, [], H', ⟨Nat.le_refl _⟩, ⟨Kd.S_nil _ _ _ _ _⟩, HBR2, HIS, HB2⟩
 case round =>
  clear H' HIS HBR2 HB2
  obtain ⟨x0, x1, xs, HA, HK1, HO, HBR, HI, HB⟩ := hrel
  cases gk with
  | zero => exact absurd HA.out (by simp [impl_Feed.l0])
  | succ k1 =>
   have H := HA.out
   clear HA
   rw [impl_Feed.l0] at H
   obtain ⟨⟨t1, t2, t3, t4, t5, t6, t7⟩, hA, H⟩ := ob H
   have A := am hA
   clear hA
   dsimp only at H
   have HH := am H
   clear H
   go_upto_if 22 with (first | ((with_reducible refine gw ?_); first | (refine gl 18 Tryz.func35 #[.pointer (some ⟨gs, 0, none⟩)] ?_; (with_reducible refine (impl_Stream_next.calls k1 gs x0 x1 t1 t2 t3 t4 t5 t6 t7 w _ HGE.out HGM.out HGT.out HI.out HB.out A.out).mono ?_); rintro e w5 ⟨v2, rfl, ho0, hi, hb, hk⟩; refine ⟨_, rfl, ?_⟩; have n0_ := am (Kd.S_oldK (IsS25.apartS HI.out HO.out (by decide)) hk); have n1_ := am (Kd.R_lower (Kd.R_mono (Kd.R_bound ho0) (fun k_ hk_ => hk_.2.1)) HB.out.size); have n2_ := am ((hk.2 gr (blk_lt HBR.out) NE2.out (by simp)).trans HBR.out); have n3_ := am hi; have n4_ := am hb; clear HO HBR HI HB; have HO := n0_; have HF := n1_; have HBR := n2_; have HI := n3_; have HB := n4_; clear n0_ n1_ n2_ n3_ n4_ ho0 hi hb hk; obtain ⟨Af, cf, ef⟩ := Kd.R_slice HF.out; subst ef) | (refine bx 7 #[.int .i64 0, .string (⟨#[]⟩ : ByteArray), .slice none 0 0, .string (⟨#[]⟩ : ByteArray)] 40 ?_; intro gb hgb w6 hbb hb; have n0_ := am (Kd.S_below (Kd.S_elderB HO.out gb (Nat.le_of_eq hgb.symm)) hb); have n1_ := am (Kd.R_types (Kd.R_below HF.out hb) hbb (by decide)); have n2_ := kb HBR hb; have n3_ := am (IsS25.below HI.out hb); have n4_ := am (below_step HB.out hb); have n5_ : Aside0 (gb ≠ gs) := ⟨by rw [hgb]; exact Nat.ne_of_gt (IsS25.lt HI.out)⟩; have n6_ : Aside0 (gb ≠ gr) := ⟨by rw [hgb]; exact Nat.ne_of_gt (blk_lt HBR.out)⟩; have n7_ : Aside0 (w.heap.size ≤ gb) := ⟨by rw [hgb]; exact HB.out.size⟩; have BK := am hbb; clear HO HF HBR HI HB hb hbb hgb; have HO := n0_; have HF := n1_; have HBR := n2_; have HI := n3_; have HB := n4_; have NGS := n5_; have NGR := n6_; have GB := n7_; clear n0_ n1_ n2_ n3_ n4_ n5_ n6_ n7_; have hfz0 := blk_frozen BK.out 0; have hfz1 := blk_frozen BK.out 1; have hfz2 := blk_frozen BK.out 2; have hfz3 := blk_frozen BK.out 3; have hcz0 : w6.cell? ⟨gb, 0, none⟩ = some (.int .i64 0) := (blk_cell BK.out 0).trans rfl; have hcz1 : w6.cell? ⟨gb, 1, none⟩ = some (.string (⟨#[]⟩ : ByteArray)) := (blk_cell BK.out 1).trans rfl; have hcz2 : w6.cell? ⟨gb, 2, none⟩ = some (.slice none 0 0) := (blk_cell BK.out 2).trans rfl; have hcz3 : w6.cell? ⟨gb, 3, none⟩ = some (.string (⟨#[]⟩ : ByteArray)) := (blk_cell BK.out 3).trans rfl)) | ((with_reducible refine gate_store (t := 40) (p := 7) rfl ?_); refine store_event (t := 40) (p := 7) (v := ?vo_w7) (w1 := ((((w6.setCell ⟨gb, 0, none⟩ (.int .i64 t1)).setCell ⟨gb, 1, none⟩ (.string t2)).setCell ⟨gb, 2, none⟩ (.slice Af t3.length cf)).setCell ⟨gb, 3, none⟩ (.string t4))) ?hg ?ho ?hn ?hr ?_; (case ho => rfl); (case hg => rfl); (case hn => rfl); (case hr => first | (go_simp; done) | (go_simp; rfl)); intro w7 hw; have n0_ : Aside0 (Kd.S k40 40 w7 w.heap.size (fun k_ => (True ∧ k_ < wr.heap.size) ∧ k_ ≠ gb) u6 xs) := ⟨by rw [hw]; exact Kd.S_far (p := ⟨gb, 3, none⟩) (Kd.S_far (p := ⟨gb, 2, none⟩) (Kd.S_far (p := ⟨gb, 1, none⟩) (Kd.S_far (p := ⟨gb, 0, none⟩) HO.out (fun _ hk => hk.2) _) (fun _ hk => hk.2) _) (fun _ hk => hk.2) _) (fun _ hk => hk.2) _⟩; have n1_ : Aside0 (Kd.R k81 81 w7 w.heap.size (fun k_ => wr.heap.size ≤ k_ ∧ k_ ≠ gb) (.slice Af t3.length cf) t3) := ⟨by rw [hw]; exact Kd.R_far (p := ⟨gb, 3, none⟩) (Kd.R_far (p := ⟨gb, 2, none⟩) (Kd.R_far (p := ⟨gb, 1, none⟩) (Kd.R_far (p := ⟨gb, 0, none⟩) HF.out (fun _ hk => hk.2) _) (fun _ hk => hk.2) _) (fun _ hk => hk.2) _) (fun _ hk => hk.2) _⟩; have n2_ : Aside0 (w7.heap[gr]? = some (.cells #[.string (⟨#[]⟩ : ByteArray), .bool false] 25 (0, 0))) := ⟨by rw [hw]; exact blk_far (blk_far (blk_far (blk_far HBR.out (p := ⟨gb, 0, none⟩) (Ne.symm NGR.out) _) (p := ⟨gb, 1, none⟩) (Ne.symm NGR.out) _) (p := ⟨gb, 2, none⟩) (Ne.symm NGR.out) _) (p := ⟨gb, 3, none⟩) (Ne.symm NGR.out) _⟩; have n3_ : Aside0 (IsS25 w w7 gs t6 t7) := ⟨by rw [hw]; exact IsS25.far (p := ⟨gb, 3, none⟩) (IsS25.far (p := ⟨gb, 2, none⟩) (IsS25.far (p := ⟨gb, 1, none⟩) (IsS25.far (p := ⟨gb, 0, none⟩) HI.out (Ne.symm NGS.out) _) (Ne.symm NGS.out) _) (Ne.symm NGS.out) _) (Ne.symm NGS.out) _⟩; have n4_ : Aside0 (Below w.heap.size w w7) := ⟨by rw [hw]; exact below_set (below_set (below_set (below_set HB.out GB.out) GB.out) GB.out) GB.out⟩; have n5_ : Aside0 (w7.heap[gb]? = some (.cells #[.int .i64 t1, .string t2, .slice Af t3.length cf, .string t4] 40 (0, 0))) := ⟨by rw [hw]; refine blk_put (cs := #[.int .i64 t1, .string t2, .slice Af t3.length cf, .string (⟨#[]⟩ : ByteArray)]) ?_ 3 _ rfl; refine blk_put (cs := #[.int .i64 t1, .string t2, .slice none 0 0, .string (⟨#[]⟩ : ByteArray)]) ?_ 2 _ rfl; refine blk_put (cs := #[.int .i64 t1, .string (⟨#[]⟩ : ByteArray), .slice none 0 0, .string (⟨#[]⟩ : ByteArray)]) ?_ 1 _ rfl; refine blk_put (cs := #[.int .i64 0, .string (⟨#[]⟩ : ByteArray), .slice none 0 0, .string (⟨#[]⟩ : ByteArray)]) ?_ 0 _ rfl; exact BK.out⟩; clear hw hfz0 hfz1 hfz2 hfz3 hcz0 hcz1 hcz2 hcz3 HO HF HBR HI HB BK; have HO := n0_; have HF := n1_; have HBR := n2_; have HI := n3_; have HB := n4_; have BK := n5_; clear n0_ n1_ n2_ n3_ n4_ n5_))
   have H := HH.out
   clear HH
   cases t5 with
   | true =>
    rw [if_pos rfl] at H
    by_cases hlen : xs.length < 2199023255552
    case neg => rw [if_neg hlen] at H; cases H
    rw [if_pos hlen] at H
    have H' := am H
    have LM := am hlen
    clear H hlen
    have hcz0 : w7.cell? ⟨gb, 0, none⟩ = some (.int .i64 t1) := (blk_cell BK.out 0).trans rfl
    have hcz1 : w7.cell? ⟨gb, 1, none⟩ = some (.string t2) := (blk_cell BK.out 1).trans rfl
    have hcz2 : w7.cell? ⟨gb, 2, none⟩ = some (.slice Af t3.length cf) := (blk_cell BK.out 2).trans rfl
    have hcz3 : w7.cell? ⟨gb, 3, none⟩ = some (.string t4) := (blk_cell BK.out 3).trans rfl
    go_wp2_with (first | ((with_reducible refine gate_builtin (b := .append) (xs := #[.tmp 23, .tmp 25]) rfl ?_); at_builtin; refine Kd.S_append k40 (w0 := w) w.heap.size rfl (.tmp 23) (.tmp 25) 28 40 (.agg #[(.int .i64 0), (.string ⟨#[]⟩), (.slice none 0 0), (.string ⟨#[]⟩)]) 64 rfl Tryz.underlying28 info40 rfl (by decide) (by omega) u6 xs (⟨t1, t2, t3, t4⟩ : S40) [.int .i64 t1, .string t2, .slice Af t3.length cf, .string t4] (fun k_ => k_ ≠ gb) (fun k_ => some k_ = (.slice Af t3.length cf : Value).ownBlock) rfl rfl ?aP ?aK ?aF ?aO ?aB ?aS ?aL ?_; (case aP => exact k40_mkM _ _ _ (⟨t1, t2, t3, t4⟩ : S40) (Kd.R_tight rfl HF.out)); (case aK => exact fun k_ hk_ => ⟨(HF.out.1 k_ hk_.symm).2, fun e_ => by have h1_ := (HF.out.1 k_ hk_.symm).1; have h2_ := ((Kd.S_R HO.out).1 k_ e_.symm).1.2; omega⟩); (case aF => exact fun k_ hk => Kd.freshB (g := gb) (o := .cells #[.int .i64 t1, .string t2, .slice Af t3.length cf, .string t4] 40 (0, 0)) (bk BK) k_ hk); (case aO => exact Kd.S_mono HO.out (fun k_ hk => ⟨hk.2, fun e_ => by have h1_ := (HF.out.1 k_ e_.symm).1; have h2_ := hk.1.2; omega⟩)); (case aB => exact HB.out); (case aS => exact HB.out.size); (case aL => have := LM.out; omega); intro v8 w8 ho hb hg hat; have n2_ := am (blk_grown HBR.out hg (Kd.S_ne HO.out HBR.out (by decide))); have n3_ := am (IsS25.grown HI.out hg (IsS25.own_neS HI.out HO.out (by decide))); have n4_ := am hb; have n5_ := am (Kd.S_mono ho (ok' := fun _ => True) (fun _ _ => trivial)); clear ho hb hg hat HO HF HBR HI HB BK; have HO := n5_; have HBR := n2_; have HI := n3_; have HB := n4_; clear n2_ n3_ n4_ n5_))
    go_roundg k1
    case measure => have := HK1.out; omega
    case rel => exact ⟨t6, t7, xs ++ [(⟨t1, t2, t3, t4⟩ : S40)], H', ⟨by have := HK1.out; omega⟩, HO, HBR, HI, HB⟩
   | false =>
    rw [if_neg (by simp)] at H
    have hs0 : w7.cell? ⟨gs, 0, none⟩ = some (.string t6) := (blk_cell HI.out.1 0).trans rfl
    have hs1 : w7.cell? ⟨gs, 1, none⟩ = some (.bool t7) := (blk_cell HI.out.1 1).trans rfl
    have hz0 := blk_frozen HI.out.1 0
    have hz1 := blk_frozen HI.out.1 1
    have hd0 : w7.cell? ⟨gr, 0, none⟩ = some (.string (⟨#[]⟩ : ByteArray)) := (blk_cell HBR.out 0).trans rfl
    have hd1 : w7.cell? ⟨gr, 1, none⟩ = some (.bool false) := (blk_cell HBR.out 1).trans rfl
    have hy0 := blk_frozen HBR.out 0
    have hy1 := blk_frozen HBR.out 1
    have HOT := am (Kd.S_mono (ok' := fun k_ => k_ ≠ gr ∧ k_ ≠ gs) (Kd.S_types (Kd.S_types HO.out HBR.out (by decide)) HI.out.1 (by decide)) (fun k_ hk => ⟨hk.1.2, hk.2⟩))
    cases t7 with
    | true =>
     rw [if_pos rfl] at H
     simp only [Option.some.injEq, Prod.mk.injEq] at H
     obtain ⟨rfl, rfl, rfl⟩ := H
     go_wp2
     refine bodyPost_ret (results_ct rfl _ _ gr 25 #[.string (⟨#[]⟩ : ByteArray), .bool true] (0, 0) _ rfl (by (with_reducible repeat (first | refine blk_drewN ?_ _ | refine blk_drew ?_ | refine blk_alloc ?_ _)); refine blk_put (cs := #[.string (⟨#[]⟩ : ByteArray), .bool false]) ?_ 1 _ rfl; refine blk_put (cs := #[.string (⟨#[]⟩ : ByteArray), .bool false]) ?_ 0 _ rfl; (with_reducible repeat (first | refine blk_drewN ?_ _ | refine blk_drew ?_ | refine blk_alloc ?_ _)); refine blk_far ?_ (p := ⟨gs, 0, none⟩) NE2.out _; exact HBR.out) Tryz.underlying25 rfl (by kernel_rfl)) rfl ?_
     exact ⟨_, rfl, Kd.S_mono (Kd.S_far (p := ⟨gr, 1, none⟩) (Kd.S_far (p := ⟨gr, 0, none⟩) (Kd.S_far (p := ⟨gs, 0, none⟩) HOT.out (fun _ hk => hk.2) _) (fun _ hk => hk.1) _) (fun _ hk => hk.1) _) (fun _ _ => trivial), below_set (below_set (below_set HB.out GS.out) GR.out) GR.out⟩
    | false =>
     rw [if_neg (by simp)] at H
     simp only [Option.some.injEq, Prod.mk.injEq] at H
     obtain ⟨rfl, rfl, rfl⟩ := H
     go_wp2
     refine bodyPost_ret (results_ct rfl _ _ gr 25 #[.string t6, .bool false] (0, 0) _ rfl (by (with_reducible repeat (first | refine blk_drewN ?_ _ | refine blk_drew ?_ | refine blk_alloc ?_ _)); refine blk_put (cs := #[.string t6, .bool false]) ?_ 1 _ rfl; refine blk_put (cs := #[.string (⟨#[]⟩ : ByteArray), .bool false]) ?_ 0 _ rfl; exact HBR.out) Tryz.underlying25 rfl (by kernel_rfl)) rfl ?_
     exact ⟨_, rfl, Kd.S_mono (Kd.S_far (p := ⟨gr, 1, none⟩) (Kd.S_far (p := ⟨gr, 0, none⟩) HOT.out (fun _ hk => hk.1) _) (fun _ hk => hk.1) _) (fun _ _ => trivial), below_set (below_set HB.out GR.out) GR.out⟩

/-! ### spec_l5Head: function 36 -/
def spec_l5Head.l0 : Nat → ByteArray → Int → Option (Int)
 | 0, _, _ => none
 | k + 1, x0, x3 => if x3 < (x0.size : Int) then (if 0 ≤ (wrap64 (x3 - 3)) then (if (wrap64 (x3 - 3)) < (x0.size : Int) then (if (bt x0 (wrap64 (x3 - 3))) = 13 then (if 0 ≤ (wrap64 (x3 - 2)) then (if (wrap64 (x3 - 2)) < (x0.size : Int) then (if (bt x0 (wrap64 (x3 - 2))) = 10 then (if 0 ≤ (wrap64 (x3 - 1)) then (if (wrap64 (x3 - 1)) < (x0.size : Int) then (if (bt x0 (wrap64 (x3 - 1))) = 13 then (if 0 ≤ x3 then (if (bt x0 x3) = 10 then (some (wrap64 (x3 + 1))) else (spec_l5Head.l0 k x0 (wrap64 (x3 + 1)))) else (none)) else (spec_l5Head.l0 k x0 (wrap64 (x3 + 1)))) else (none)) else (none)) else (spec_l5Head.l0 k x0 (wrap64 (x3 + 1)))) else (none)) else (none)) else (spec_l5Head.l0 k x0 (wrap64 (x3 + 1)))) else (none)) else (none)) else (some (-1))
def spec_l5Head.f (k : Nat) (a0 : ByteArray) : Option (Int) := spec_l5Head.l0 k a0 3
set_option maxHeartbeats 8000000 in
set_option maxRecDepth 100000 in
theorem spec_l5Head.calls (k : Nat) (a0 : ByteArray) (r : Int) (w : World) (h : spec_l5Head.f k a0 = some r) :
  Calls Tryz.prog 36 #[.string a0] w fun e w' => e = .returned (.int .i64 r) ∧ Drawn0 w w' := by
 unfold spec_l5Head.f at h
 have H := h
 clear h
 have H' := am H
 clear H
 go_enter Tryz.func36, Tryz.ntmps36
 go_wp2
 (try simp only [Act.put, List.setIfInBounds_toArray, List.set_cons_zero, List.set_cons_succ])
 go_loopg [3] k (fun kq v3 w' => ∃ (x3_1 : Int), v3 = .int .i64 x3_1 ∧ Aside0 (spec_l5Head.l0 kq a0 x3_1 = some r) ∧ Aside0 (kq ≤ k) ∧ Drawn0 w w')
 case atStart => exact ⟨(3), rs, H', ⟨Nat.le_refl _⟩, dr⟩
 case round =>
  clear H'
  obtain ⟨x3_1, rfl, HA, HK1, ⟨m1, rfl⟩⟩ := hrel
  cases gk with
  | zero => exact absurd HA.out (by simp [spec_l5Head.l0])
  | succ k1 =>
   have H := HA.out
   clear HA
   simp only [spec_l5Head.l0] at H
   by_cases c2 : x3_1 < (a0.size : Int)
   rotate_left
   ·rw [if_neg c2] at H
    have c2b0 := decide_eq_false c2
    clear c2
    obtain rfl := Option.some.inj H
    go_wp2
    go_ret
    exact ⟨rs, dr⟩
   rw [if_pos c2] at H
   have c2b0 := decide_eq_true c2
   clear c2
   obtain ⟨ji3, hji3⟩ : ∃ j_ : Int, (wrap64 (x3_1 - 3)) = j_ := ⟨_, rfl⟩
   replace H : (if 0 ≤ (ji3) then (if (ji3) < (a0.size : Int) then (if (bt a0 (ji3)) = 13 then (if 0 ≤ (wrap64 (x3_1 - 2)) then (if (wrap64 (x3_1 - 2)) < (a0.size : Int) then (if (bt a0 (wrap64 (x3_1 - 2))) = 10 then (if 0 ≤ (wrap64 (x3_1 - 1)) then (if (wrap64 (x3_1 - 1)) < (a0.size : Int) then (if (bt a0 (wrap64 (x3_1 - 1))) = 13 then (if 0 ≤ x3_1 then (if (bt a0 x3_1) = 10 then (some (wrap64 (x3_1 + 1))) else (spec_l5Head.l0 k1 a0 (wrap64 (x3_1 + 1)))) else (none)) else (spec_l5Head.l0 k1 a0 (wrap64 (x3_1 + 1)))) else (none)) else (none)) else (spec_l5Head.l0 k1 a0 (wrap64 (x3_1 + 1)))) else (none)) else (none)) else (spec_l5Head.l0 k1 a0 (wrap64 (x3_1 + 1)))) else (none)) else (none)) = some r := by first | (rw [hji3] at H; exact H) | (simp only [hji3] at H ⊢; exact H)
   have hji3w : (IntKind.i64.wrap (x3_1 - 3)) = ji3 := (i64_w _).trans hji3
   revert H
   refine ifn fun c4 H => ?_
   have c4b0 := decide_eq_true c4
   clear c4
   revert H
   refine ifn fun c5 H => ?_
   have c5b0 := decide_eq_true c5
   clear c5
   by_cases c7 : (bt a0 (ji3)) = 13
   rotate_left
   ·rw [if_neg c7] at H
    have c7b0 : ((bt a0 (ji3)) == 13) = false := beq_eq_false_iff_ne.mpr c7
    have c7b1 : ((bt a0 (ji3)) != 13) = true := bne_iff_ne.mpr c7
    have H' := am H
    clear H
    have p6 : 0 ≤ ((ji3) : Int) := od
    have q6 : (ji3) < (a0.size : Int) := od
    have hx6 := bt_at a0 (ji3)
    replace p6 := eq_true p6
    replace q6 := eq_true q6
    go_wp2
    go_roundg k1
    case measure => have := HK1.out; omega
    case rel => exact ⟨(wrap64 (x3_1 + 1)), rs, H', ⟨by have := HK1.out; omega⟩, dr⟩
   rw [if_pos c7] at H
   have c7b0 : ((bt a0 (ji3)) == 13) = true := beq_iff_eq.mpr c7
   have c7b1 : ((bt a0 (ji3)) != 13) = false := bne_eq_false_iff_eq.mpr c7
   clear c7
   obtain ⟨ji8, hji8⟩ : ∃ j_ : Int, (wrap64 (x3_1 - 2)) = j_ := ⟨_, rfl⟩
   replace H : (if 0 ≤ (ji8) then (if (ji8) < (a0.size : Int) then (if (bt a0 (ji8)) = 10 then (if 0 ≤ (wrap64 (x3_1 - 1)) then (if (wrap64 (x3_1 - 1)) < (a0.size : Int) then (if (bt a0 (wrap64 (x3_1 - 1))) = 13 then (if 0 ≤ x3_1 then (if (bt a0 x3_1) = 10 then (some (wrap64 (x3_1 + 1))) else (spec_l5Head.l0 k1 a0 (wrap64 (x3_1 + 1)))) else (none)) else (spec_l5Head.l0 k1 a0 (wrap64 (x3_1 + 1)))) else (none)) else (none)) else (spec_l5Head.l0 k1 a0 (wrap64 (x3_1 + 1)))) else (none)) else (none)) = some r := by first | (rw [hji8] at H; exact H) | (simp only [hji8] at H ⊢; exact H)
   have hji8w : (IntKind.i64.wrap (x3_1 - 2)) = ji8 := (i64_w _).trans hji8
   revert H
   refine ifn fun c9 H => ?_
   have c9b0 := decide_eq_true c9
   clear c9
   revert H
   refine ifn fun c10 H => ?_
   have c10b0 := decide_eq_true c10
   clear c10
   by_cases c12 : (bt a0 (ji8)) = 10
   rotate_left
   ·rw [if_neg c12] at H
    have c12b0 : ((bt a0 (ji8)) == 10) = false := beq_eq_false_iff_ne.mpr c12
    have c12b1 : ((bt a0 (ji8)) != 10) = true := bne_iff_ne.mpr c12
    have H' := am H
    clear H
    have p6 : 0 ≤ ((ji3) : Int) := od
    have q6 : (ji3) < (a0.size : Int) := od
    have hx6 := bt_at a0 (ji3)
    replace p6 := eq_true p6
    replace q6 := eq_true q6
    have p11 : 0 ≤ ((ji8) : Int) := od
    have q11 : (ji8) < (a0.size : Int) := od
    have hx11 := bt_at a0 (ji8)
    replace p11 := eq_true p11
    replace q11 := eq_true q11
    go_wp2
    go_roundg k1
    case measure => have := HK1.out; omega
    case rel => exact ⟨(wrap64 (x3_1 + 1)), rs, H', ⟨by have := HK1.out; omega⟩, dr⟩
   rw [if_pos c12] at H
   have c12b0 : ((bt a0 (ji8)) == 10) = true := beq_iff_eq.mpr c12
   have c12b1 : ((bt a0 (ji8)) != 10) = false := bne_eq_false_iff_eq.mpr c12
   clear c12
   obtain ⟨ji13, hji13⟩ : ∃ j_ : Int, (wrap64 (x3_1 - 1)) = j_ := ⟨_, rfl⟩
   replace H : (if 0 ≤ (ji13) then (if (ji13) < (a0.size : Int) then (if (bt a0 (ji13)) = 13 then (if 0 ≤ x3_1 then (if (bt a0 x3_1) = 10 then (some (wrap64 (x3_1 + 1))) else (spec_l5Head.l0 k1 a0 (wrap64 (x3_1 + 1)))) else (none)) else (spec_l5Head.l0 k1 a0 (wrap64 (x3_1 + 1)))) else (none)) else (none)) = some r := by first | (rw [hji13] at H; exact H) | (simp only [hji13] at H ⊢; exact H)
   have hji13w : (IntKind.i64.wrap (x3_1 - 1)) = ji13 := (i64_w _).trans hji13
   revert H
   refine ifn fun c14 H => ?_
   have c14b0 := decide_eq_true c14
   clear c14
   revert H
   refine ifn fun c15 H => ?_
   have c15b0 := decide_eq_true c15
   clear c15
   by_cases c17 : (bt a0 (ji13)) = 13
   rotate_left
   ·rw [if_neg c17] at H
    have c17b0 : ((bt a0 (ji13)) == 13) = false := beq_eq_false_iff_ne.mpr c17
    have c17b1 : ((bt a0 (ji13)) != 13) = true := bne_iff_ne.mpr c17
    have H' := am H
    clear H
    have p6 : 0 ≤ ((ji3) : Int) := od
    have q6 : (ji3) < (a0.size : Int) := od
    have hx6 := bt_at a0 (ji3)
    replace p6 := eq_true p6
    replace q6 := eq_true q6
    have p11 : 0 ≤ ((ji8) : Int) := od
    have q11 : (ji8) < (a0.size : Int) := od
    have hx11 := bt_at a0 (ji8)
    replace p11 := eq_true p11
    replace q11 := eq_true q11
    have p16 : 0 ≤ ((ji13) : Int) := od
    have q16 : (ji13) < (a0.size : Int) := od
    have hx16 := bt_at a0 (ji13)
    replace p16 := eq_true p16
    replace q16 := eq_true q16
    go_wp2
    go_roundg k1
    case measure => have := HK1.out; omega
    case rel => exact ⟨(wrap64 (x3_1 + 1)), rs, H', ⟨by have := HK1.out; omega⟩, dr⟩
   rw [if_pos c17] at H
   have c17b0 : ((bt a0 (ji13)) == 13) = true := beq_iff_eq.mpr c17
   have c17b1 : ((bt a0 (ji13)) != 13) = false := bne_eq_false_iff_eq.mpr c17
   clear c17
   revert H
   refine ifn fun c18 H => ?_
   have c18b0 := decide_eq_true c18
   clear c18
   by_cases c20 : (bt a0 x3_1) = 10
   rotate_left
   ·rw [if_neg c20] at H
    have c20b0 : ((bt a0 x3_1) == 10) = false := beq_eq_false_iff_ne.mpr c20
    have c20b1 : ((bt a0 x3_1) != 10) = true := bne_iff_ne.mpr c20
    have H' := am H
    clear H
    have p6 : 0 ≤ ((ji3) : Int) := od
    have q6 : (ji3) < (a0.size : Int) := od
    have hx6 := bt_at a0 (ji3)
    replace p6 := eq_true p6
    replace q6 := eq_true q6
    have p11 : 0 ≤ ((ji8) : Int) := od
    have q11 : (ji8) < (a0.size : Int) := od
    have hx11 := bt_at a0 (ji8)
    replace p11 := eq_true p11
    replace q11 := eq_true q11
    have p16 : 0 ≤ ((ji13) : Int) := od
    have q16 : (ji13) < (a0.size : Int) := od
    have hx16 := bt_at a0 (ji13)
    replace p16 := eq_true p16
    replace q16 := eq_true q16
    have p19 : 0 ≤ (x3_1 : Int) := od
    have q19 : x3_1 < (a0.size : Int) := od
    have hx19 := bt_at a0 x3_1
    replace p19 := eq_true p19
    replace q19 := eq_true q19
    go_wp2
    go_roundg k1
    case measure => have := HK1.out; omega
    case rel => exact ⟨(wrap64 (x3_1 + 1)), rs, H', ⟨by have := HK1.out; omega⟩, dr⟩
   rw [if_pos c20] at H
   have c20b0 : ((bt a0 x3_1) == 10) = true := beq_iff_eq.mpr c20
   have c20b1 : ((bt a0 x3_1) != 10) = false := bne_eq_false_iff_eq.mpr c20
   clear c20
   obtain rfl := Option.some.inj H
   have p6 : 0 ≤ ((ji3) : Int) := od
   have q6 : (ji3) < (a0.size : Int) := od
   have hx6 := bt_at a0 (ji3)
   replace p6 := eq_true p6
   replace q6 := eq_true q6
   have p11 : 0 ≤ ((ji8) : Int) := od
   have q11 : (ji8) < (a0.size : Int) := od
   have hx11 := bt_at a0 (ji8)
   replace p11 := eq_true p11
   replace q11 := eq_true q11
   have p16 : 0 ≤ ((ji13) : Int) := od
   have q16 : (ji13) < (a0.size : Int) := od
   have hx16 := bt_at a0 (ji13)
   replace p16 := eq_true p16
   replace q16 := eq_true q16
   have p19 : 0 ≤ (x3_1 : Int) := od
   have q19 : x3_1 < (a0.size : Int) := od
   have hx19 := bt_at a0 x3_1
   replace p19 := eq_true p19
   replace q19 := eq_true q19
   go_wp2
   go_ret
   exact ⟨by first | rfl | (simp; done) | (simp only [← hji3, ← hji8, ← hji13] <;> (first | rfl | simp)) | (simp [*]; done), dr⟩

/-! ### spec_NumRead: function 63 -/
theorem u63HB {p : Prop} (h : p := by repeat (first | (with_reducible first | exact HB.out | apply below_alloc | apply pw_below_drewN | apply below_drew1) | exact HB.out)) : p := h
mutual
def spec_NumRead.j0 : Nat → ByteArray → Bool → Option (Int × Bool)
 | 0, _, _ => none
 | k + 1, x0, x12 => if x12 = true then (some (0, false)) else (spec_NumRead.l0 k x0 0 0)
def spec_NumRead.l0 : Nat → ByteArray → Int → Int → Option (Int × Bool)
 | 0, _, _, _ => none
 | k + 1, x0, x4, x5 => if x5 < (x0.size : Int) then (if 0 ≤ x5 then (if (bt x0 x5) < 48 then (some (0, false)) else (if (bt x0 x5) > 57 then (some (0, false)) else (spec_NumRead.l0 k x0 (wrap64 ((wrap64 ((wrap64 (10 * x4)) + (wrap64 (bt x0 x5)))) - 48)) (wrap64 (x5 + 1))))) else (none)) else ((spec_NumText.f k x4).bind fun t364 => (if t364.toList = x0.toList then (some (x4, true)) else (some (0, false))))
end
def spec_NumRead.f (k : Nat) (a0 : ByteArray) : Option (Int × Bool) := if a0.toList = ([] : List UInt8) then (spec_NumRead.j0 k a0 true) else (spec_NumRead.j0 k a0 (decide ((a0.size : Int) > 7)))
set_option maxHeartbeats 8000000 in
set_option maxRecDepth 100000 in
theorem spec_NumRead.calls (k : Nat) (a0 : ByteArray) (r1 : Int) (r2 : Bool) (w : World) (h : spec_NumRead.f k a0 = some (r1, r2)) :
  Calls Tryz.prog 63 #[.string a0] w fun e w' => e = .returned (.tuple #[.int .i64 r1, .bool r2]) ∧ Below w.heap.size w w' := by
 have HB := am (Below.refl w.heap.size w)
 unfold spec_NumRead.f at h
 have H := h
 clear h
 have HC2 := am H
 clear H
 go_enter Tryz.func63, Tryz.ntmps63
 go_upto_region 1 with (fail)
 go_cut [12] (fun v12 wc => ∃ (kq : Nat) (x12_1 : Bool), v12 = .bool x12_1 ∧ Aside0 (spec_NumRead.j0 kq a0 x12_1 = some (r1, r2)) ∧ Aside0 (kq ≤ k) ∧ Aside0 (Below w.heap.size w wc))
 case first =>
  have H := HC2.out
  clear HC2
  by_cases c3 : a0.toList = ([] : List UInt8)
  ·rw [if_pos c3] at H
   have c3b0 : (a0.toList == ([] : List UInt8)) = true := beq_iff_eq.mpr c3
   have c3b1 : (a0.toList != ([] : List UInt8)) = false := bne_eq_false_iff_eq.mpr c3
   clear c3
   (first | rw [c3b0] | (simp only [i64_w, i32_w]; rw [c3b0]) | skip)
   have H' := am H
   clear H
   go_wp2
   go_meet
   case rel => exact ⟨_, (true), rs, H', ⟨by first | omega | exact Nat.le_refl _⟩, ⟨u63HB⟩⟩
  rw [if_neg c3] at H
  have c3b0 : (a0.toList == ([] : List UInt8)) = false := beq_eq_false_iff_ne.mpr c3
  have c3b1 : (a0.toList != ([] : List UInt8)) = true := bne_iff_ne.mpr c3
  (first | rw [c3b0] | (simp only [i64_w, i32_w]; rw [c3b0]) | skip)
  have H' := am H
  clear H
  go_wp2
  go_meet
  case rel => exact ⟨_, (decide ((a0.size : Int) > 7)), rs, H', ⟨by first | omega | exact Nat.le_refl _⟩, ⟨u63HB⟩⟩
 case rest =>
  clear HC2
  try clear p2
  try clear c3
  try clear c3b0
  try clear c3b1
  obtain ⟨kq, x12_1, rfl, HA, HJ1, HB⟩ := hcut
  cases kq with
  | zero => exact absurd HA.out (by simp [spec_NumRead.j0])
  | succ kj1 =>
   have H := HA.out
   clear HA
   simp only [spec_NumRead.j0] at H
   by_cases c4 : x12_1 = true
   ·subst c4
    rw [if_pos rfl] at H
    simp only [Option.some.injEq, Prod.mk.injEq] at H
    obtain ⟨rfl, rfl⟩ := H
    go_wp2
    go_ret2
    exact ⟨rf, bl⟩
   replace c4 := Bool.eq_false_iff.mpr c4
   subst c4
   rw [if_neg (show ¬ (false = true) by decide)] at H
   have H' := am H
   clear H
   go_wp2
   (try simp only [Act.put, List.setIfInBounds_toArray, List.set_cons_zero, List.set_cons_succ])
   go_loopg [4, 5] kj1 (fun kq v4 v5 w' => ∃ (x4_2 : Int) (x5_2 : Int), v4 = .int .i64 x4_2 ∧ v5 = .int .i64 x5_2 ∧ Aside0 (spec_NumRead.l0 kq a0 x4_2 x5_2 = some (r1, r2)) ∧ Aside0 (kq ≤ kj1) ∧ Aside0 (Below w.heap.size w w'))
   case atStart => exact ⟨(0), (0), rs, rs, H', ⟨Nat.le_refl _⟩, ⟨u63HB⟩⟩
   case round =>
    clear H'
    try clear p2
    try clear c3
    try clear c3b0
    try clear c3b1
    try clear c4
    try clear p2
    obtain ⟨x4_2, x5_2, rfl, rfl, HA, HK2, HB⟩ := hrel
    cases gk with
    | zero => exact absurd HA.out (by simp [spec_NumRead.l0])
    | succ k2 =>
     have H := HA.out
     clear HA
     simp only [spec_NumRead.l0] at H
     by_cases c5 : x5_2 < (a0.size : Int)
     rotate_left
     ·rw [if_neg c5] at H
      have c5b0 := decide_eq_false c5
      clear c5
      revert H
      refine ok1 fun t364 A12 H => ?_
      by_cases c13 : t364.toList = a0.toList
      rotate_left
      ·rw [if_neg c13] at H
       have c13b0 : (t364.toList == a0.toList) = false := beq_eq_false_iff_ne.mpr c13
       have c13b1 : (t364.toList != a0.toList) = true := bne_iff_ne.mpr c13
       simp only [Option.some.injEq, Prod.mk.injEq] at H
       obtain ⟨rfl, rfl⟩ := H
       go_wp2_with ((with_reducible refine gw ?_); first | (refine gl 38 Tryz.func56 #[.int .i64 x4_2] ?_; (with_reducible refine (spec_NumText.calls k2 x4_2 t364 _ A12.out).mono ?_); rintro e w15 ⟨rfl, hb⟩; refine ⟨_, rfl, ?_⟩; replace HB := am (below_step bl hb); clear hb))
       go_ret2
       exact ⟨rf, bl⟩
      rw [if_pos c13] at H
      have c13b0 : (t364.toList == a0.toList) = true := beq_iff_eq.mpr c13
      have c13b1 : (t364.toList != a0.toList) = false := bne_eq_false_iff_eq.mpr c13
      clear c13
      simp only [Option.some.injEq, Prod.mk.injEq] at H
      obtain ⟨rfl, rfl⟩ := H
      go_wp2_with ((with_reducible refine gw ?_); first | (refine gl 38 Tryz.func56 #[.int .i64 x4_2] ?_; (with_reducible refine (spec_NumText.calls k2 x4_2 t364 _ A12.out).mono ?_); rintro e w14 ⟨rfl, hb⟩; refine ⟨_, rfl, ?_⟩; replace HB := am (below_step bl hb); clear hb))
      go_ret2
      exact ⟨rf, bl⟩
     rw [if_pos c5] at H
     have c5b0 := decide_eq_true c5
     clear c5
     revert H
     refine ifn fun c6 H => ?_
     have c6b0 := decide_eq_true c6
     clear c6
     by_cases c8 : (bt a0 x5_2) < 48
     ·rw [if_pos c8] at H
      have c8b0 := decide_eq_true c8
      clear c8
      simp only [Option.some.injEq, Prod.mk.injEq] at H
      obtain ⟨rfl, rfl⟩ := H
      have p7 : 0 ≤ (x5_2 : Int) := od
      have q7 : x5_2 < (a0.size : Int) := od
      have hx7 := bt_at a0 x5_2
      replace p7 := eq_true p7
      replace q7 := eq_true q7
      go_wp2
      go_ret2
      exact ⟨rf, bl⟩
     rw [if_neg c8] at H
     have c8b0 := decide_eq_false c8
     clear c8
     by_cases c10 : (bt a0 x5_2) > 57
     ·rw [if_pos c10] at H
      have c10b0 := decide_eq_true c10
      clear c10
      simp only [Option.some.injEq, Prod.mk.injEq] at H
      obtain ⟨rfl, rfl⟩ := H
      have p7 : 0 ≤ (x5_2 : Int) := od
      have q7 : x5_2 < (a0.size : Int) := od
      have hx7 := bt_at a0 x5_2
      replace p7 := eq_true p7
      replace q7 := eq_true q7
      have p9 : 0 ≤ (x5_2 : Int) := od
      have q9 : x5_2 < (a0.size : Int) := od
      have hx9 := bt_at a0 x5_2
      replace p9 := eq_true p9
      replace q9 := eq_true q9
      go_wp2
      go_ret2
      exact ⟨rf, bl⟩
     rw [if_neg c10] at H
     have c10b0 := decide_eq_false c10
     clear c10
     have H' := am H
     clear H
     have p7 : 0 ≤ (x5_2 : Int) := od
     have q7 : x5_2 < (a0.size : Int) := od
     have hx7 := bt_at a0 x5_2
     replace p7 := eq_true p7
     replace q7 := eq_true q7
     have p9 : 0 ≤ (x5_2 : Int) := od
     have q9 : x5_2 < (a0.size : Int) := od
     have hx9 := bt_at a0 x5_2
     replace p9 := eq_true p9
     replace q9 := eq_true q9
     have p11 : 0 ≤ (x5_2 : Int) := od
     have q11 : x5_2 < (a0.size : Int) := od
     have hx11 := bt_at a0 x5_2
     replace p11 := eq_true p11
     replace q11 := eq_true q11
     go_wp2
     go_roundg k2
     case measure => have := HJ1.out; have := HK2.out; omega
     case rel => exact ⟨(wrap64 ((wrap64 ((wrap64 (10 * x4_2)) + (wrap64 (bt a0 x5_2)))) - 48)), (wrap64 (x5_2 + 1)), rs, rs, H', ⟨by have := HJ1.out; have := HK2.out; omega⟩, ⟨u63HB⟩⟩

/-! ### spec_l5Length: function 37 -/
theorem u37HB {p : Prop} (h : p := by repeat (first | (with_reducible first | exact HB.out | apply below_alloc | apply pw_below_drewN | apply below_drew1) | exact HB.out)) : p := h
mutual
def spec_l5Length.l0 : Nat → ByteArray → ByteArray → Int → Int → Option (Int)
 | 0, _, _, _, _ => none
 | k + 1, x0, x3, x4, x5 => if x5 < (x0.size : Int) then (if 0 ≤ x5 then (if (bt x0 x5) = 10 then (if 0 ≤ (wrap64 (x5 - 1)) then (if (wrap64 (x5 - 1)) < (x0.size : Int) then (spec_l5Length.j1 k x0 x3 x4 x5 ((bt x0 (wrap64 (x5 - 1))) != 13)) else (none)) else (none)) else (spec_l5Length.j1 k x0 x3 x4 x5 true)) else (none)) else (some 0)
def spec_l5Length.j1 : Nat → ByteArray → ByteArray → Int → Int → Bool → Option (Int)
 | 0, _, _, _, _, _ => none
 | k + 1, x0, x3, x4, x5, x24 => if x24 = true then (spec_l5Length.l0 k x0 x3 x4 (wrap64 (x5 + 1))) else (if x4 ≥ 0 then (if (wrap64 ((wrap64 (x5 - 1)) - x4)) > (x3.size : Int) then (if 0 ≤ x4 then (if x4 ≤ (wrap64 (x4 + (x3.size : Int))) then (if (wrap64 (x4 + (x3.size : Int))) ≤ (x0.size : Int) then (spec_l5Length.j2 k x0 x3 x4 x5 ((x0.extract (x4 : Int).toNat ((wrap64 (x4 + (x3.size : Int))) : Int).toNat).toList == x3.toList)) else (none)) else (none)) else (none)) else (spec_l5Length.j2 k x0 x3 x4 x5 false)) else (spec_l5Length.j2 k x0 x3 x4 x5 false))
def spec_l5Length.j2 : Nat → ByteArray → ByteArray → Int → Int → Bool → Option (Int)
 | 0, _, _, _, _, _ => none
 | k + 1, x0, x3, x4, x5, x46 => if x46 = true then (if 0 ≤ (wrap64 (x4 + (x3.size : Int))) then (if (wrap64 (x4 + (x3.size : Int))) ≤ (wrap64 (x5 - 1)) then (if (wrap64 (x5 - 1)) ≤ (x0.size : Int) then ((spec_NumRead.f k (x0.extract ((wrap64 (x4 + (x3.size : Int))) : Int).toNat ((wrap64 (x5 - 1)) : Int).toNat)).bind fun bt365 => (if bt365.2 = true then (some bt365.1) else (spec_l5Length.l0 k x0 x3 (wrap64 (x5 + 1)) (wrap64 (x5 + 1))))) else (none)) else (none)) else (none)) else (spec_l5Length.l0 k x0 x3 (wrap64 (x5 + 1)) (wrap64 (x5 + 1)))
end
def spec_l5Length.f (k : Nat) (a0 : ByteArray) : Option (Int) := spec_l5Length.l0 k a0 (⟨#[99, 111, 110, 116, 101, 110, 116, 45, 108, 101, 110, 103, 116, 104, 58, 32]⟩ : ByteArray) (-1) 1
set_option maxHeartbeats 8000000 in
set_option maxRecDepth 100000 in
theorem spec_l5Length.calls (k : Nat) (a0 : ByteArray) (r : Int) (w : World) (h : spec_l5Length.f k a0 = some r) :
  Calls Tryz.prog 37 #[.string a0] w fun e w' => e = .returned (.int .i64 r) ∧ Below w.heap.size w w' := by
 have HB := am (Below.refl w.heap.size w)
 unfold spec_l5Length.f at h
 have H := h
 clear h
 have H' := am H
 clear H
 go_enter Tryz.func37, Tryz.ntmps37
 go_wp2
 (try simp only [Act.put, List.setIfInBounds_toArray, List.set_cons_zero, List.set_cons_succ])
 go_loopg [4, 5] k (fun kq v4 v5 w' => ∃ (x4_1 : Int) (x5_1 : Int), v4 = .int .i64 x4_1 ∧ v5 = .int .i64 x5_1 ∧ Aside0 (spec_l5Length.l0 kq a0 (⟨#[99, 111, 110, 116, 101, 110, 116, 45, 108, 101, 110, 103, 116, 104, 58, 32]⟩ : ByteArray) x4_1 x5_1 = some r) ∧ Aside0 (kq ≤ k) ∧ Aside0 (Below w.heap.size w w'))
 case atStart => exact ⟨((-1)), (1), rs, rs, H', ⟨Nat.le_refl _⟩, ⟨u37HB⟩⟩
 case round =>
  clear H'
  obtain ⟨x4_1, x5_1, rfl, rfl, HA, HK1, HB⟩ := hrel
  cases gk with
  | zero => exact absurd HA.out (by simp [spec_l5Length.l0])
  | succ k1 =>
   have H := HA.out
   clear HA
   simp only [spec_l5Length.l0] at H
   by_cases c2 : x5_1 < (a0.size : Int)
   rotate_left
   ·rw [if_neg c2] at H
    have c2b0 := decide_eq_false c2
    clear c2
    obtain rfl := Option.some.inj H
    go_wp2
    go_ret
    exact ⟨rf, bl⟩
   rw [if_pos c2] at H
   have c2b0 := decide_eq_true c2
   clear c2
   have HC3 := am H
   clear H
   go_upto_region 6 with (fail)
   go_cut [24] (fun v24 wc => ∃ (kq : Nat) (x24_2 : Bool), v24 = .bool x24_2 ∧ Aside0 (spec_l5Length.j1 kq a0 (⟨#[99, 111, 110, 116, 101, 110, 116, 45, 108, 101, 110, 103, 116, 104, 58, 32]⟩ : ByteArray) x4_1 x5_1 x24_2 = some r) ∧ Aside0 (kq ≤ k1) ∧ Aside0 (Below w.heap.size w wc))
   case first =>
    have H := HC3.out
    clear HC3
    revert H
    refine ifn fun c4 H => ?_
    have c4b0 := decide_eq_true c4
    clear c4
    (first | rw [c4b0] | (simp only [i64_w, i32_w]; rw [c4b0]) | skip)
    by_cases c6 : (bt a0 x5_1) = 10
    rotate_left
    ·rw [if_neg c6] at H
     have c6b0 : ((bt a0 x5_1) == 10) = false := beq_eq_false_iff_ne.mpr c6
     have c6b1 : ((bt a0 x5_1) != 10) = true := bne_iff_ne.mpr c6
     have H' := am H
     clear H
     have p5 : 0 ≤ (x5_1 : Int) := od
     have q5 : x5_1 < (a0.size : Int) := od
     have hx5 := bt_at a0 x5_1
     replace p5 := eq_true p5
     replace q5 := eq_true q5
     go_wp2
     go_meet
     case rel => exact ⟨_, (true), rs, H', ⟨by have := HK1.out; first | omega | exact Nat.le_refl _⟩, ⟨u37HB⟩⟩
    rw [if_pos c6] at H
    have c6b0 : ((bt a0 x5_1) == 10) = true := beq_iff_eq.mpr c6
    have c6b1 : ((bt a0 x5_1) != 10) = false := bne_eq_false_iff_eq.mpr c6
    clear c6
    obtain ⟨ji7, hji7⟩ : ∃ j_ : Int, (wrap64 (x5_1 - 1)) = j_ := ⟨_, rfl⟩
    replace H : (if 0 ≤ (ji7) then (if (ji7) < (a0.size : Int) then (spec_l5Length.j1 k1 a0 (⟨#[99, 111, 110, 116, 101, 110, 116, 45, 108, 101, 110, 103, 116, 104, 58, 32]⟩ : ByteArray) x4_1 x5_1 ((bt a0 (ji7)) != 13)) else (none)) else (none)) = some r := by first | (rw [hji7] at H; exact H) | (simp only [hji7] at H ⊢; exact H)
    have hji7w : (IntKind.i64.wrap (x5_1 - 1)) = ji7 := (i64_w _).trans hji7
    revert H
    refine ifn fun c8 H => ?_
    have c8b0 := decide_eq_true c8
    clear c8
    revert H
    refine ifn fun c9 H => ?_
    have c9b0 := decide_eq_true c9
    clear c9
    have H' := am H
    clear H
    have p5 : 0 ≤ (x5_1 : Int) := od
    have q5 : x5_1 < (a0.size : Int) := od
    have hx5 := bt_at a0 x5_1
    replace p5 := eq_true p5
    replace q5 := eq_true q5
    have p10 : 0 ≤ ((ji7) : Int) := od
    have q10 : (ji7) < (a0.size : Int) := od
    have hx10 := bt_at a0 (ji7)
    replace p10 := eq_true p10
    replace q10 := eq_true q10
    go_wp2
    go_meet
    case rel => exact ⟨_, (((bt a0 (ji7)) != 13)), (by first | rfl | (simp; done) | (simp only [← hji7] <;> (first | rfl | simp)) | (simp [*]; done)), H', ⟨by have := HK1.out; first | omega | exact Nat.le_refl _⟩, ⟨u37HB⟩⟩
   case rest =>
    clear HC3
    try clear p1
    try clear q1
    try clear hx1
    try clear c2
    try clear c2b0
    try clear p2
    try clear c3
    try clear c4
    try clear c4b0
    try clear p5
    try clear q5
    try clear hx5
    try clear c6
    try clear c6b0
    try clear c6b1
    try clear p6
    try clear c8
    try clear c8b0
    try clear c9
    try clear c9b0
    try clear p10
    try clear q10
    try clear hx10
    try clear p10
    try clear p5
    try clear q10
    try clear q5
    obtain ⟨kq, x24_2, rfl, HA, HJ2, HB⟩ := hcut
    cases kq with
    | zero => exact absurd HA.out (by simp [spec_l5Length.j1])
    | succ kj2 =>
     have H := HA.out
     clear HA
     simp only [spec_l5Length.j1] at H
     by_cases c11 : x24_2 = true
     ·subst c11
      rw [if_pos rfl] at H
      have H' := am H
      clear H
      go_wp2
      go_roundg kj2
      case measure => have := HK1.out; have := HJ2.out; omega
      case rel => exact ⟨(x4_1), (wrap64 (x5_1 + 1)), rs, rs, H', ⟨by have := HK1.out; have := HJ2.out; omega⟩, ⟨u37HB⟩⟩
     replace c11 := Bool.eq_false_iff.mpr c11
     subst c11
     rw [if_neg (show ¬ (false = true) by decide)] at H
     have HC12 := am H
     clear H
     go_upto_region 7 with (fail)
     go_cut [46] (fun v46 wc => ∃ (kq : Nat) (x46_11 : Bool), v46 = .bool x46_11 ∧ Aside0 (spec_l5Length.j2 kq a0 (⟨#[99, 111, 110, 116, 101, 110, 116, 45, 108, 101, 110, 103, 116, 104, 58, 32]⟩ : ByteArray) x4_1 x5_1 x46_11 = some r) ∧ Aside0 (kq ≤ kj2) ∧ Aside0 (Below w.heap.size w wc))
     case first =>
      have H := HC12.out
      clear HC12
      by_cases c13 : x4_1 ≥ 0
      rotate_left
      ·rw [if_neg c13] at H
       have c13b0 := decide_eq_false c13
       clear c13
       (first | rw [c13b0] | (simp only [i64_w, i32_w]; rw [c13b0]) | skip)
       have H' := am H
       clear H
       go_wp2
       go_meet
       case rel => exact ⟨_, (false), rs, H', ⟨by have := HK1.out; have := HJ2.out; first | omega | exact Nat.le_refl _⟩, ⟨u37HB⟩⟩
      rw [if_pos c13] at H
      have c13b0 := decide_eq_true c13
      clear c13
      (first | rw [c13b0] | (simp only [i64_w, i32_w]; rw [c13b0]) | skip)
      by_cases c14 : (wrap64 ((wrap64 (x5_1 - 1)) - x4_1)) > ((⟨#[99, 111, 110, 116, 101, 110, 116, 45, 108, 101, 110, 103, 116, 104, 58, 32]⟩ : ByteArray).size : Int)
      rotate_left
      ·rw [if_neg c14] at H
       have c14b0 := decide_eq_false c14
       try have c14b0z : decide (16 < (wrap64 ((wrap64 (x5_1 - 1)) - x4_1))) = false := decide_eq_false c14
       clear c14
       have H' := am H
       clear H
       go_wp2
       go_meet
       case rel => exact ⟨_, (false), rs, H', ⟨by have := HK1.out; have := HJ2.out; first | omega | exact Nat.le_refl _⟩, ⟨u37HB⟩⟩
      rw [if_pos c14] at H
      have c14b0 := decide_eq_true c14
      try have c14b0z : decide (16 < (wrap64 ((wrap64 (x5_1 - 1)) - x4_1))) = true := decide_eq_true c14
      clear c14
      revert H
      refine ifn fun c15 H => ?_
      have c15b0 := eq_true c15
      have c15b1 := decide_eq_true c15
      clear c15
      revert H
      refine ifn fun c16 H => ?_
      have c16b0 := eq_true c16
      have c16b0z : (x4_1 ≤ (wrap64 (x4_1 + 16))) = True := eq_true c16
      have c16b1 := decide_eq_true c16
      try have c16b1z : decide (x4_1 ≤ (wrap64 (x4_1 + 16))) = true := decide_eq_true c16
      revert H
      refine ifn fun c17 H => ?_
      have c17b0 := eq_true c17
      have c17b0z : ((wrap64 (x4_1 + 16)) ≤ (a0.size : Int)) = True := eq_true c17
      have c17b1 := decide_eq_true c17
      try have c17b1z : decide ((wrap64 (x4_1 + 16)) ≤ (a0.size : Int)) = true := decide_eq_true c17
      have H' := am H
      clear H
      go_wp2
      go_meet
      case rel => exact ⟨_, (((a0.extract (x4_1 : Int).toNat ((wrap64 (x4_1 + ((⟨#[99, 111, 110, 116, 101, 110, 116, 45, 108, 101, 110, 103, 116, 104, 58, 32]⟩ : ByteArray).size : Int))) : Int).toNat).toList == (⟨#[99, 111, 110, 116, 101, 110, 116, 45, 108, 101, 110, 103, 116, 104, 58, 32]⟩ : ByteArray).toList)), (by first | rfl | (simp; done) | (simp; rfl)), H', ⟨by have := HK1.out; have := HJ2.out; first | omega | exact Nat.le_refl _⟩, ⟨u37HB⟩⟩
     case rest =>
      clear HC12
      try clear c1
      try clear p1
      try clear q1
      try clear hx1
      try clear c2
      try clear c2b0
      try clear p2
      try clear c3
      try clear c4
      try clear c4b0
      try clear p5
      try clear q5
      try clear hx5
      try clear c6
      try clear c6b0
      try clear c6b1
      try clear p6
      try clear c8
      try clear c8b0
      try clear c9
      try clear c9b0
      try clear p10
      try clear q10
      try clear hx10
      try clear c11
      try clear c13
      try clear c13b0
      try clear c14
      try clear c14b0
      try clear c15
      try clear c15b0
      try clear c15b1
      try clear c16
      try clear c16b0
      try clear c16b1
      try clear c17
      try clear c17b0
      try clear c17b1
      try clear p1
      try clear p10
      try clear p2
      try clear p5
      try clear p6
      try clear q1
      try clear q10
      try clear q5
      obtain ⟨kq, x46_11, rfl, HA, HJ11, HB⟩ := hcut
      cases kq with
      | zero => exact absurd HA.out (by simp [spec_l5Length.j2])
      | succ kj11 =>
       have H := HA.out
       clear HA
       simp only [spec_l5Length.j2] at H
       by_cases c18 : x46_11 = true
       rotate_left
       ·replace c18 := Bool.eq_false_iff.mpr c18
        subst c18
        rw [if_neg (show ¬ (false = true) by decide)] at H
        have H' := am H
        clear H
        go_wp2
        go_roundg kj11
        case measure => have := HK1.out; have := HJ2.out; have := HJ11.out; omega
        case rel => exact ⟨(wrap64 (x5_1 + 1)), (wrap64 (x5_1 + 1)), rs, rs, H', ⟨by have := HK1.out; have := HJ2.out; have := HJ11.out; omega⟩, ⟨u37HB⟩⟩
       subst c18
       rw [if_pos rfl] at H
       obtain ⟨ji19, hji19⟩ : ∃ j_ : Int, (wrap64 (x4_1 + ((⟨#[99, 111, 110, 116, 101, 110, 116, 45, 108, 101, 110, 103, 116, 104, 58, 32]⟩ : ByteArray).size : Int))) = j_ := ⟨_, rfl⟩
       have hji19z : (wrap64 (x4_1 + 16)) = ji19 := hji19
       replace H : (if 0 ≤ (ji19) then (if (ji19) ≤ (wrap64 (x5_1 - 1)) then (if (wrap64 (x5_1 - 1)) ≤ (a0.size : Int) then ((spec_NumRead.f kj11 (a0.extract ((ji19) : Int).toNat ((wrap64 (x5_1 - 1)) : Int).toNat)).bind fun bt365 => (if bt365.2 = true then (some bt365.1) else (spec_l5Length.l0 kj11 a0 (⟨#[99, 111, 110, 116, 101, 110, 116, 45, 108, 101, 110, 103, 116, 104, 58, 32]⟩ : ByteArray) (wrap64 (x5_1 + 1)) (wrap64 (x5_1 + 1))))) else (none)) else (none)) else (none)) = some r := by first | (rw [hji19] at H; exact H) | (simp only [hji19] at H ⊢; exact H)
       have hji19w : (IntKind.i64.wrap (x4_1 + ((⟨#[99, 111, 110, 116, 101, 110, 116, 45, 108, 101, 110, 103, 116, 104, 58, 32]⟩ : ByteArray).size : Int))) = ji19 := (i64_w _).trans hji19
       have hji19wz : (IntKind.i64.wrap (x4_1 + 16)) = ji19 := hji19w
       revert H
       refine ifn fun c20 H => ?_
       have c20b0 := eq_true c20
       have c20b1 := decide_eq_true c20
       clear c20
       revert H
       refine ifn fun c21 H => ?_
       have c21b0 := eq_true c21
       have c21b1 := decide_eq_true c21
       clear c21
       revert H
       refine ifn fun c22 H => ?_
       have c22b0 := eq_true c22
       have c22b1 := decide_eq_true c22
       clear c22
       revert H
       refine ok2 fun t365 t366 A23 H => ?_
       (try dsimp only at H)
       by_cases c24 : t366 = true
       ·subst c24
        rw [if_pos rfl] at H
        obtain rfl := Option.some.inj H
        go_wp2_with ((with_reducible refine gw ?_); first | (refine gl 56 Tryz.func63 #[.string (a0.extract ((ji19) : Int).toNat ((wrap64 (x5_1 - 1)) : Int).toNat)] ?_ (hargs := (by (try simp only [List.map_toArray, List.map_cons, List.map_nil]); first | done | (simp only [hji19]; rfl) | rfl | (simp only [List.length_drop, List.length_take]; rfl))); (with_reducible refine (spec_NumRead.calls kj11 (a0.extract ((ji19) : Int).toNat ((wrap64 (x5_1 - 1)) : Int).toNat) t365 true _ A23.out).mono ?_); rintro e w25 ⟨rfl, hb⟩; refine ⟨_, rfl, ?_⟩; replace HB := am (below_step bl hb); clear hb))
        go_ret
        exact ⟨by first | rfl | (simp [errW_none, errW_some] <;> rfl) | (simp only [← hji19]; first | rfl | (simp [errW_none, errW_some] <;> rfl)) | (simp [*, errW_none, errW_some] <;> rfl), bl⟩
       replace c24 := Bool.eq_false_iff.mpr c24
       subst c24
       rw [if_neg (show ¬ (false = true) by decide)] at H
       have H' := am H
       clear H
       go_wp2_with ((with_reducible refine gw ?_); first | (refine gl 56 Tryz.func63 #[.string (a0.extract ((ji19) : Int).toNat ((wrap64 (x5_1 - 1)) : Int).toNat)] ?_ (hargs := (by (try simp only [List.map_toArray, List.map_cons, List.map_nil]); first | done | (simp only [hji19]; rfl) | rfl | (simp only [List.length_drop, List.length_take]; rfl))); (with_reducible refine (spec_NumRead.calls kj11 (a0.extract ((ji19) : Int).toNat ((wrap64 (x5_1 - 1)) : Int).toNat) t365 false _ A23.out).mono ?_); rintro e w26 ⟨rfl, hb⟩; refine ⟨_, rfl, ?_⟩; replace HB := am (below_step bl hb); clear hb))
       go_roundg kj11
       case measure => have := HK1.out; have := HJ2.out; have := HJ11.out; omega
       case rel => exact ⟨(wrap64 (x5_1 + 1)), (wrap64 (x5_1 + 1)), rs, rs, H', ⟨by have := HK1.out; have := HJ2.out; have := HJ11.out; omega⟩, ⟨u37HB⟩⟩

/-! ### spec_l3Head: function 64 -/
theorem u64HB {p : Prop} (h : p := by repeat (first | (with_reducible first | exact HB.out | apply below_alloc | apply pw_below_drewN | apply below_drew1) | exact HB.out)) : p := h
mutual
def spec_l3Head.l0 : Nat → ByteArray → List ByteArray → Int → Int → Option (List ByteArray × Int)
 | 0, _, _, _, _ => none
 | k + 1, x0, x4, x5, x6 => if x6 < (x0.size : Int) then (if 0 ≤ x6 then (if (bt x0 x6) = 10 then (if 0 ≤ (wrap64 (x6 - 1)) then (if (wrap64 (x6 - 1)) < (x0.size : Int) then (if (bt x0 (wrap64 (x6 - 1))) = 13 then (spec_l3Head.j1 k x0 x4 x5 x6 (decide ((wrap64 (x6 - 1)) < x5))) else (spec_l3Head.j1 k x0 x4 x5 x6 true)) else (none)) else (none)) else (spec_l3Head.j1 k x0 x4 x5 x6 true)) else (none)) else (some (x4, (-1)))
def spec_l3Head.j1 : Nat → ByteArray → List ByteArray → Int → Int → Bool → Option (List ByteArray × Int)
 | 0, _, _, _, _, _ => none
 | k + 1, x0, x4, x5, x6, x31 => if x31 = true then (spec_l3Head.l0 k x0 x4 x5 (wrap64 (x6 + 1))) else (if 0 ≤ x5 then (if x5 ≤ (wrap64 (x6 - 1)) then (if (wrap64 (x6 - 1)) ≤ (x0.size : Int) then (if (x0.extract (x5 : Int).toNat ((wrap64 (x6 - 1)) : Int).toNat).toList = ([] : List UInt8) then (some (x4, wrap64 (x6 + 1))) else (if x4.length < 8796093022208 then (spec_l3Head.l0 k x0 (x4 ++ [x0.extract (x5 : Int).toNat ((wrap64 (x6 - 1)) : Int).toNat]) (wrap64 (x6 + 1)) (wrap64 (x6 + 1))) else (none))) else (none)) else (none)) else (none))
end
def spec_l3Head.f (k : Nat) (a0 : ByteArray) : Option (List ByteArray × Int) := spec_l3Head.l0 k a0 (([] : List ByteArray)) 0 1
set_option maxHeartbeats 8000000 in
set_option maxRecDepth 100000 in
theorem spec_l3Head.calls (k : Nat) (a0 : ByteArray) (r1 : List ByteArray) (r2 : Int) (w : World) (h : spec_l3Head.f k a0 = some (r1, r2)) :
  Calls Tryz.prog 64 #[.string a0] w fun e w' => ∃ v0_ : Value, e = .returned (.tuple #[v0_, .int .i64 r2]) ∧ Kd.R Kd.string 9 w' w.heap.size (fun _ => True) v0_ r1 ∧ Below w.heap.size w w' := by
 have HB := am (Below.refl w.heap.size w)
 unfold spec_l3Head.f at h
 have H := h
 clear h
 obtain ⟨y367, hy367⟩ : ∃ y_ : List ByteArray, y_ = (([] : List ByteArray)) := ⟨_, rfl⟩
 replace H : (spec_l3Head.l0 k a0 y367 0 1) = some (r1, r2) := by first | (rw [hy367]; with_reducible exact H) | (have H2_ := (Option.bind_some _ _).symm.trans H; rw [hy367]; with_reducible exact H2_) | (have H2_ := (Option.bind_some _ _).symm.trans H; with_reducible exact H2_) | with_reducible exact H | (rw [hy367]; exact H) | exact H
 have Ny367 := am hy367
 clear hy367
 have H' := am H
 clear H
 go_enter Tryz.func64, Tryz.ntmps64
 go_wp2_with (first | ((with_reducible refine gate_dst (N := 8) rfl ?_); refine Kd.R_lit Kd.string _ 9 ?hg (N := 8) ?hd (xs := ([] : List ByteArray)) (inner := []) (ok := fun _ => True) (okp := fun _ => True) ?hr ?hp (fun _ hk => hk) trivial (Below.refl _ _) (Nat.le_refl _) (by simp) ?_; (case hd => rfl); (case hg => rfl); (case hr => first | (go_simp; done) | (go_simp; rfl)); (case hp => exact (Reps.none _ _)); intro v368 w2 ho3 hb hg_ hnew_; clear hg_ hnew_; (first | rw [← Ny367.out] at ho3 | (simp only [Int.reduceToNat] at ho3; rw [← Ny367.out] at ho3)); have HO369 := am (Kd.R_lower ho3 (below_size bl)); replace HB := am (below_step bl hb); clear hb ho3))
 (try simp only [Act.put, List.setIfInBounds_toArray, List.set_cons_zero, List.set_cons_succ])
 go_loopg [4, 5, 6] k (fun kq v4 v5 v6 w' => ∃ (x4_1 : List ByteArray) (x5_1 : Int) (x6_1 : Int), v5 = .int .i64 x5_1 ∧ v6 = .int .i64 x6_1 ∧ Aside0 (spec_l3Head.l0 kq a0 x4_1 x5_1 x6_1 = some (r1, r2)) ∧ Aside0 (kq ≤ k) ∧ Aside0 (Kd.R Kd.string 9 w' w.heap.size (fun _ => True) v4 x4_1) ∧ Aside0 (Below w.heap.size w w'))
 case atStart => exact ⟨(y367), (0), (1), rs, rs, H', ⟨Nat.le_refl _⟩, ⟨by (with_reducible repeat (first | apply Kd.R_alloc | apply Kd.R_drewN | apply Kd.R_drew)); exact HO369.out⟩, ⟨u64HB⟩⟩
 case round =>
  clear H'
  try clear p2
  obtain ⟨x4_1, x5_1, x6_1, rfl, rfl, HA, HK1, HO_4, HB⟩ := hrel
  cases gk with
  | zero => exact absurd HA.out (by simp [spec_l3Head.l0])
  | succ k1 =>
   have H := HA.out
   clear HA
   simp only [spec_l3Head.l0] at H
   by_cases c4 : x6_1 < (a0.size : Int)
   rotate_left
   ·rw [if_neg c4] at H
    have c4b0 := decide_eq_false c4
    clear c4
    simp only [Option.some.injEq, Prod.mk.injEq] at H
    obtain ⟨rfl, rfl⟩ := H
    go_wp2
    go_ret2
    exact ⟨_, rf, by (with_reducible repeat (first | apply Kd.R_alloc | apply Kd.R_drewN | apply Kd.R_drew)); exact HO_4.out, bl⟩
   rw [if_pos c4] at H
   have c4b0 := decide_eq_true c4
   clear c4
   have HC5 := am H
   clear H
   go_upto_region 6 with (fail)
   go_cut [31] (fun v31 wc => ∃ (kq : Nat) (x31_4 : Bool), v31 = .bool x31_4 ∧ Aside0 (spec_l3Head.j1 kq a0 x4_1 x5_1 x6_1 x31_4 = some (r1, r2)) ∧ Aside0 (kq ≤ k1) ∧ Aside0 (Kd.R Kd.string 9 wc w.heap.size (fun _ => True) u4 x4_1) ∧ Aside0 (Below w.heap.size w wc))
   case first =>
    have H := HC5.out
    clear HC5
    revert H
    refine ifn fun c6 H => ?_
    have c6b0 := decide_eq_true c6
    clear c6
    (first | rw [c6b0] | (simp only [i64_w, i32_w]; rw [c6b0]) | skip)
    by_cases c8 : (bt a0 x6_1) = 10
    rotate_left
    ·rw [if_neg c8] at H
     have c8b0 : ((bt a0 x6_1) == 10) = false := beq_eq_false_iff_ne.mpr c8
     have c8b1 : ((bt a0 x6_1) != 10) = true := bne_iff_ne.mpr c8
     have H' := am H
     clear H
     have p7 : 0 ≤ (x6_1 : Int) := od
     have q7 : x6_1 < (a0.size : Int) := od
     have hx7 := bt_at a0 x6_1
     replace p7 := eq_true p7
     replace q7 := eq_true q7
     go_wp2
     go_meet
     case rel => exact ⟨_, (true), rs, H', ⟨by have := HK1.out; first | omega | exact Nat.le_refl _⟩, ⟨by (with_reducible repeat (first | apply Kd.R_alloc | apply Kd.R_drewN | apply Kd.R_drew)); exact HO_4.out⟩, ⟨u64HB⟩⟩
    rw [if_pos c8] at H
    have c8b0 : ((bt a0 x6_1) == 10) = true := beq_iff_eq.mpr c8
    have c8b1 : ((bt a0 x6_1) != 10) = false := bne_eq_false_iff_eq.mpr c8
    clear c8
    obtain ⟨ji9, hji9⟩ : ∃ j_ : Int, (wrap64 (x6_1 - 1)) = j_ := ⟨_, rfl⟩
    replace H : (if 0 ≤ (ji9) then (if (ji9) < (a0.size : Int) then (if (bt a0 (ji9)) = 13 then (spec_l3Head.j1 k1 a0 x4_1 x5_1 x6_1 (decide ((ji9) < x5_1))) else (spec_l3Head.j1 k1 a0 x4_1 x5_1 x6_1 true)) else (none)) else (none)) = some (r1, r2) := by first | (rw [hji9] at H; exact H) | (simp only [hji9] at H ⊢; exact H)
    have hji9w : (IntKind.i64.wrap (x6_1 - 1)) = ji9 := (i64_w _).trans hji9
    revert H
    refine ifn fun c10 H => ?_
    have c10b0 := decide_eq_true c10
    clear c10
    revert H
    refine ifn fun c11 H => ?_
    have c11b0 := decide_eq_true c11
    clear c11
    by_cases c13 : (bt a0 (ji9)) = 13
    rotate_left
    ·rw [if_neg c13] at H
     have c13b0 : ((bt a0 (ji9)) == 13) = false := beq_eq_false_iff_ne.mpr c13
     have c13b1 : ((bt a0 (ji9)) != 13) = true := bne_iff_ne.mpr c13
     have H' := am H
     clear H
     have p7 : 0 ≤ (x6_1 : Int) := od
     have q7 : x6_1 < (a0.size : Int) := od
     have hx7 := bt_at a0 x6_1
     replace p7 := eq_true p7
     replace q7 := eq_true q7
     have p12 : 0 ≤ ((ji9) : Int) := od
     have q12 : (ji9) < (a0.size : Int) := od
     have hx12 := bt_at a0 (ji9)
     replace p12 := eq_true p12
     replace q12 := eq_true q12
     go_wp2
     go_meet
     case rel => exact ⟨_, (true), rs, H', ⟨by have := HK1.out; first | omega | exact Nat.le_refl _⟩, ⟨by (with_reducible repeat (first | apply Kd.R_alloc | apply Kd.R_drewN | apply Kd.R_drew)); exact HO_4.out⟩, ⟨u64HB⟩⟩
    rw [if_pos c13] at H
    have c13b0 : ((bt a0 (ji9)) == 13) = true := beq_iff_eq.mpr c13
    have c13b1 : ((bt a0 (ji9)) != 13) = false := bne_eq_false_iff_eq.mpr c13
    clear c13
    have H' := am H
    clear H
    have p7 : 0 ≤ (x6_1 : Int) := od
    have q7 : x6_1 < (a0.size : Int) := od
    have hx7 := bt_at a0 x6_1
    replace p7 := eq_true p7
    replace q7 := eq_true q7
    have p12 : 0 ≤ ((ji9) : Int) := od
    have q12 : (ji9) < (a0.size : Int) := od
    have hx12 := bt_at a0 (ji9)
    replace p12 := eq_true p12
    replace q12 := eq_true q12
    go_wp2
    go_meet
    case rel => exact ⟨_, (decide ((ji9) < x5_1)), (by first | rfl | (simp; done) | (simp only [← hji9] <;> (first | rfl | simp)) | (simp [*]; done)), H', ⟨by have := HK1.out; first | omega | exact Nat.le_refl _⟩, ⟨by (with_reducible repeat (first | apply Kd.R_alloc | apply Kd.R_drewN | apply Kd.R_drew)); exact HO_4.out⟩, ⟨u64HB⟩⟩
   case rest =>
    clear HC5
    try clear c1
    try clear p1
    try clear q1
    try clear hx1
    try clear p2
    try clear c4
    try clear c4b0
    try clear c6
    try clear c6b0
    try clear p6
    try clear p7
    try clear q7
    try clear hx7
    try clear c8
    try clear c8b0
    try clear c8b1
    try clear c10
    try clear c10b0
    try clear c11
    try clear c11b0
    try clear p12
    try clear q12
    try clear hx12
    try clear c13
    try clear c13b0
    try clear c13b1
    try clear p12
    try clear p2
    try clear p7
    try clear q12
    try clear q7
    obtain ⟨kq, x31_4, rfl, HA, HJ4, HO_4, HB⟩ := hcut
    cases kq with
    | zero => exact absurd HA.out (by simp [spec_l3Head.j1])
    | succ kj4 =>
     have H := HA.out
     clear HA
     simp only [spec_l3Head.j1] at H
     by_cases c14 : x31_4 = true
     ·subst c14
      rw [if_pos rfl] at H
      have H' := am H
      clear H
      go_wp2
      go_roundg kj4
      case measure => have := HK1.out; have := HJ4.out; omega
      case rel => exact ⟨(x4_1), (x5_1), (wrap64 (x6_1 + 1)), rs, rs, H', ⟨by have := HK1.out; have := HJ4.out; omega⟩, ⟨by (with_reducible repeat (first | apply Kd.R_alloc | apply Kd.R_drewN | apply Kd.R_drew)); exact HO_4.out⟩, ⟨u64HB⟩⟩
     replace c14 := Bool.eq_false_iff.mpr c14
     subst c14
     rw [if_neg (show ¬ (false = true) by decide)] at H
     revert H
     refine ifn fun c15 H => ?_
     have c15b0 := eq_true c15
     have c15b1 := decide_eq_true c15
     clear c15
     revert H
     refine ifn fun c16 H => ?_
     have c16b0 := eq_true c16
     have c16b1 := decide_eq_true c16
     clear c16
     revert H
     refine ifn fun c17 H => ?_
     have c17b0 := eq_true c17
     have c17b1 := decide_eq_true c17
     clear c17
     by_cases c18 : (a0.extract (x5_1 : Int).toNat ((wrap64 (x6_1 - 1)) : Int).toNat).toList = ([] : List UInt8)
     ·rw [if_pos c18] at H
      have c18b0 : ((a0.extract (x5_1 : Int).toNat ((wrap64 (x6_1 - 1)) : Int).toNat).toList == ([] : List UInt8)) = true := beq_iff_eq.mpr c18
      have c18b1 : ((a0.extract (x5_1 : Int).toNat ((wrap64 (x6_1 - 1)) : Int).toNat).toList != ([] : List UInt8)) = false := bne_eq_false_iff_eq.mpr c18
      clear c18
      simp only [Option.some.injEq, Prod.mk.injEq] at H
      obtain ⟨rfl, rfl⟩ := H
      go_wp2
      go_ret2
      exact ⟨_, rf, by (with_reducible repeat (first | apply Kd.R_alloc | apply Kd.R_drewN | apply Kd.R_drew)); exact HO_4.out, bl⟩
     rw [if_neg c18] at H
     have c18b0 : ((a0.extract (x5_1 : Int).toNat ((wrap64 (x6_1 - 1)) : Int).toNat).toList == ([] : List UInt8)) = false := beq_eq_false_iff_ne.mpr c18
     have c18b1 : ((a0.extract (x5_1 : Int).toNat ((wrap64 (x6_1 - 1)) : Int).toNat).toList != ([] : List UInt8)) = true := bne_iff_ne.mpr c18
     revert H
     refine ifn fun c19 H => ?_
     have LMc19 := am c19
     clear c19
     obtain ⟨y370, hy370⟩ : ∃ y_ : List ByteArray, y_ = (x4_1 ++ [a0.extract (x5_1 : Int).toNat ((wrap64 (x6_1 - 1)) : Int).toNat]) := ⟨_, rfl⟩
     replace H : (spec_l3Head.l0 kj4 a0 y370 (wrap64 (x6_1 + 1)) (wrap64 (x6_1 + 1))) = some (r1, r2) := by first | (rw [hy370]; with_reducible exact H) | (have H2_ := (Option.bind_some _ _).symm.trans H; rw [hy370]; with_reducible exact H2_) | (have H2_ := (Option.bind_some _ _).symm.trans H; with_reducible exact H2_) | with_reducible exact H | (rw [hy370]; exact H) | exact H
     have Ny370 := am hy370
     clear hy370
     have H' := am H
     clear H
     go_wp2_with (first | ((with_reducible refine gate_builtin (b := .append) (xs := #[.tmp 43, .tmp 45]) rfl ?_); at_builtin; refine Kd.R_append Kd.string (w0 := w) w.heap.size rfl (.tmp 43) (.tmp 45) 35 9 (.string ⟨#[]⟩) 16 rfl Tryz.underlying35 info9 rfl (by decide) (by omega) u4 x4_1 (a0.extract (x5_1 : Int).toNat ((wrap64 (x6_1 - 1)) : Int).toNat) [.string (a0.extract (x5_1 : Int).toNat ((wrap64 (x6_1 - 1)) : Int).toNat)] (fun _ => True) (fun _ => False) rfl rfl ?aP (fun _ hk => hk.elim) ?aF ?aO ?aB ?aS ?aL ?_; (case aP => exact rfl); (case aB => exact bl); (case aF => exact (fun _ _ => trivial)); (case aO => exact (ro HO_4)); (case aS => exact (below_size bl)); (case aL => have := LMc19.out; omega); intro v371 w20 ho hb hg hat; rw [← Ny370.out] at ho; have n0_ := am (hb); have n1_ := am (ho); clear HB; clear HO_4; have HB := n0_; have HO372 := n1_; clear n0_ n1_; clear ho hb hg hat))
     go_roundg kj4
     case measure => have := HK1.out; have := HJ4.out; omega
     case rel => exact ⟨(y370), (wrap64 (x6_1 + 1)), (wrap64 (x6_1 + 1)), rs, rs, H', ⟨by have := HK1.out; have := HJ4.out; omega⟩, ⟨by (with_reducible repeat (first | apply Kd.R_alloc | apply Kd.R_drewN | apply Kd.R_drew)); exact HO372.out⟩, ⟨u64HB⟩⟩

/-! ### spec_l3Words: function 65 -/
theorem u65HB {p : Prop} (h : p := by repeat (first | (with_reducible first | exact HB.out | apply below_alloc | apply pw_below_drewN | apply below_drew1) | exact HB.out)) : p := h
def spec_l3Words.l0 : Nat → ByteArray → List ByteArray → Int → Int → Option (List ByteArray)
 | 0, _, _, _, _ => none
 | k + 1, x0, x3, x4, x5 => if x5 ≤ (x0.size : Int) then (if x5 = (x0.size : Int) then (if 0 ≤ x4 then (if x4 ≤ x5 then (if x3.length < 8796093022208 then (spec_l3Words.l0 k x0 (x3 ++ [x0.extract (x4 : Int).toNat (x5 : Int).toNat]) (wrap64 (x5 + 1)) (wrap64 (x5 + 1))) else (none)) else (none)) else (none)) else (if 0 ≤ x5 then (if x5 < (x0.size : Int) then (if (bt x0 x5) = 32 then (if 0 ≤ x4 then (if x4 ≤ x5 then (if x3.length < 8796093022208 then (spec_l3Words.l0 k x0 (x3 ++ [x0.extract (x4 : Int).toNat (x5 : Int).toNat]) (wrap64 (x5 + 1)) (wrap64 (x5 + 1))) else (none)) else (none)) else (none)) else (spec_l3Words.l0 k x0 x3 x4 (wrap64 (x5 + 1)))) else (none)) else (none))) else (some x3)
def spec_l3Words.f (k : Nat) (a0 : ByteArray) : Option (List ByteArray) := spec_l3Words.l0 k a0 (([] : List ByteArray)) 0 0
set_option maxHeartbeats 8000000 in
set_option maxRecDepth 100000 in
theorem spec_l3Words.calls (k : Nat) (a0 : ByteArray) (r : List ByteArray) (w : World) (h : spec_l3Words.f k a0 = some r) :
  Calls Tryz.prog 65 #[.string a0] w fun e w' => ∃ v0_ : Value, e = .returned (v0_) ∧ Kd.R Kd.string 9 w' w.heap.size (fun _ => True) v0_ r ∧ Below w.heap.size w w' := by
 have HB := am (Below.refl w.heap.size w)
 unfold spec_l3Words.f at h
 have H := h
 clear h
 obtain ⟨y373, hy373⟩ : ∃ y_ : List ByteArray, y_ = (([] : List ByteArray)) := ⟨_, rfl⟩
 replace H : (spec_l3Words.l0 k a0 y373 0 0) = some r := by first | (rw [hy373]; with_reducible exact H) | (have H2_ := (Option.bind_some _ _).symm.trans H; rw [hy373]; with_reducible exact H2_) | (have H2_ := (Option.bind_some _ _).symm.trans H; with_reducible exact H2_) | with_reducible exact H | (rw [hy373]; exact H) | exact H
 have Ny373 := am hy373
 clear hy373
 have H' := am H
 clear H
 go_enter Tryz.func65, Tryz.ntmps65
 go_wp2_with (first | ((with_reducible refine gate_dst (N := 6) rfl ?_); refine Kd.R_lit Kd.string _ 9 ?hg (N := 6) ?hd (xs := ([] : List ByteArray)) (inner := []) (ok := fun _ => True) (okp := fun _ => True) ?hr ?hp (fun _ hk => hk) trivial (Below.refl _ _) (Nat.le_refl _) (by simp) ?_; (case hd => rfl); (case hg => rfl); (case hr => first | (go_simp; done) | (go_simp; rfl)); (case hp => exact (Reps.none _ _)); intro v374 w2 ho3 hb hg_ hnew_; clear hg_ hnew_; (first | rw [← Ny373.out] at ho3 | (simp only [Int.reduceToNat] at ho3; rw [← Ny373.out] at ho3)); have HO375 := am (Kd.R_lower ho3 (below_size bl)); replace HB := am (below_step bl hb); clear hb ho3))
 (try simp only [Act.put, List.setIfInBounds_toArray, List.set_cons_zero, List.set_cons_succ])
 go_loopg [3, 4, 5] k (fun kq v3 v4 v5 w' => ∃ (x3_1 : List ByteArray) (x4_1 : Int) (x5_1 : Int), v4 = .int .i64 x4_1 ∧ v5 = .int .i64 x5_1 ∧ Aside0 (spec_l3Words.l0 kq a0 x3_1 x4_1 x5_1 = some r) ∧ Aside0 (kq ≤ k) ∧ Aside0 (Kd.R Kd.string 9 w' w.heap.size (fun _ => True) v3 x3_1) ∧ Aside0 (Below w.heap.size w w'))
 case atStart => exact ⟨(y373), (0), (0), rs, rs, H', ⟨Nat.le_refl _⟩, ⟨by (with_reducible repeat (first | apply Kd.R_alloc | apply Kd.R_drewN | apply Kd.R_drew)); exact HO375.out⟩, ⟨u65HB⟩⟩
 case round =>
  clear H'
  try clear p2
  obtain ⟨x3_1, x4_1, x5_1, rfl, rfl, HA, HK1, HO_3, HB⟩ := hrel
  cases gk with
  | zero => exact absurd HA.out (by simp [spec_l3Words.l0])
  | succ k1 =>
   have H := HA.out
   clear HA
   simp only [spec_l3Words.l0] at H
   by_cases c4 : x5_1 ≤ (a0.size : Int)
   rotate_left
   ·rw [if_neg c4] at H
    have c4b0 := decide_eq_false c4
    clear c4
    obtain rfl := Option.some.inj H
    go_wp2
    go_ret
    exact ⟨_, rf, by (with_reducible repeat (first | apply Kd.R_alloc | apply Kd.R_drewN | apply Kd.R_drew)); exact HO_3.out, bl⟩
   rw [if_pos c4] at H
   have c4b0 := decide_eq_true c4
   clear c4
   by_cases c5 : x5_1 = (a0.size : Int)
   ·rw [if_pos c5] at H
    have c5b0 : (x5_1 == (a0.size : Int)) = true := beq_iff_eq.mpr c5
    have c5b1 : (x5_1 != (a0.size : Int)) = false := bne_eq_false_iff_eq.mpr c5
    clear c5
    revert H
    refine ifn fun c6 H => ?_
    have c6b0 := eq_true c6
    have c6b1 := decide_eq_true c6
    clear c6
    revert H
    refine ifn fun c7 H => ?_
    have c7b0 := eq_true c7
    have c7b1 := decide_eq_true c7
    clear c7
    have c8b0 := eq_true (od : x5_1 ≤ (a0.size : Int))
    revert H
    refine ifn fun c9 H => ?_
    have LMc9 := am c9
    clear c9
    obtain ⟨y376, hy376⟩ : ∃ y_ : List ByteArray, y_ = (x3_1 ++ [a0.extract (x4_1 : Int).toNat (x5_1 : Int).toNat]) := ⟨_, rfl⟩
    replace H : (spec_l3Words.l0 k1 a0 y376 (wrap64 (x5_1 + 1)) (wrap64 (x5_1 + 1))) = some r := by first | (rw [hy376]; with_reducible exact H) | (have H2_ := (Option.bind_some _ _).symm.trans H; rw [hy376]; with_reducible exact H2_) | (have H2_ := (Option.bind_some _ _).symm.trans H; with_reducible exact H2_) | with_reducible exact H | (rw [hy376]; exact H) | exact H
    have Ny376 := am hy376
    clear hy376
    have H' := am H
    clear H
    go_wp2_with (first | ((with_reducible refine gate_builtin (b := .append) (xs := #[.tmp 23, .tmp 28]) rfl ?_); at_builtin; refine Kd.R_append Kd.string (w0 := w) w.heap.size rfl (.tmp 23) (.tmp 28) 35 9 (.string ⟨#[]⟩) 16 rfl Tryz.underlying35 info9 rfl (by decide) (by omega) u3 x3_1 (a0.extract (x4_1 : Int).toNat (x5_1 : Int).toNat) [.string (a0.extract (x4_1 : Int).toNat (x5_1 : Int).toNat)] (fun _ => True) (fun _ => False) rfl rfl ?aP (fun _ hk => hk.elim) ?aF ?aO ?aB ?aS ?aL ?_; (case aP => exact rfl); (case aB => exact bl); (case aF => exact (fun _ _ => trivial)); (case aO => exact (ro HO_3)); (case aS => exact (below_size bl)); (case aL => have := LMc9.out; omega); intro v377 w10 ho hb hg hat; rw [← Ny376.out] at ho; have n0_ := am (hb); have n1_ := am (ho); clear HB; clear HO_3; have HB := n0_; have HO378 := n1_; clear n0_ n1_; clear ho hb hg hat))
    go_roundg k1
    case measure => have := HK1.out; omega
    case rel => exact ⟨(y376), (wrap64 (x5_1 + 1)), (wrap64 (x5_1 + 1)), rs, rs, H', ⟨by have := HK1.out; omega⟩, ⟨by (with_reducible repeat (first | apply Kd.R_alloc | apply Kd.R_drewN | apply Kd.R_drew)); exact HO378.out⟩, ⟨u65HB⟩⟩
   rw [if_neg c5] at H
   have c5b0 : (x5_1 == (a0.size : Int)) = false := beq_eq_false_iff_ne.mpr c5
   have c5b1 : (x5_1 != (a0.size : Int)) = true := bne_iff_ne.mpr c5
   revert H
   refine ifn fun c11 H => ?_
   have c11b0 := decide_eq_true c11
   clear c11
   revert H
   refine ifn fun c12 H => ?_
   have c12b0 := decide_eq_true c12
   clear c12
   by_cases c14 : (bt a0 x5_1) = 32
   rotate_left
   ·rw [if_neg c14] at H
    have c14b0 : ((bt a0 x5_1) == 32) = false := beq_eq_false_iff_ne.mpr c14
    have c14b1 : ((bt a0 x5_1) != 32) = true := bne_iff_ne.mpr c14
    have H' := am H
    clear H
    have p13 : 0 ≤ (x5_1 : Int) := od
    have q13 : x5_1 < (a0.size : Int) := od
    have hx13 := bt_at a0 x5_1
    replace p13 := eq_true p13
    replace q13 := eq_true q13
    go_wp2
    go_roundg k1
    case measure => have := HK1.out; omega
    case rel => exact ⟨(x3_1), (x4_1), (wrap64 (x5_1 + 1)), rs, rs, H', ⟨by have := HK1.out; omega⟩, ⟨by (with_reducible repeat (first | apply Kd.R_alloc | apply Kd.R_drewN | apply Kd.R_drew)); exact HO_3.out⟩, ⟨u65HB⟩⟩
   rw [if_pos c14] at H
   have c14b0 : ((bt a0 x5_1) == 32) = true := beq_iff_eq.mpr c14
   have c14b1 : ((bt a0 x5_1) != 32) = false := bne_eq_false_iff_eq.mpr c14
   clear c14
   revert H
   refine ifn fun c15 H => ?_
   have c15b0 := eq_true c15
   have c15b1 := decide_eq_true c15
   clear c15
   revert H
   refine ifn fun c16 H => ?_
   have c16b0 := eq_true c16
   have c16b1 := decide_eq_true c16
   clear c16
   have c17b0 := eq_true (od : x5_1 ≤ (a0.size : Int))
   revert H
   refine ifn fun c18 H => ?_
   have LMc18 := am c18
   clear c18
   obtain ⟨y379, hy379⟩ : ∃ y_ : List ByteArray, y_ = (x3_1 ++ [a0.extract (x4_1 : Int).toNat (x5_1 : Int).toNat]) := ⟨_, rfl⟩
   replace H : (spec_l3Words.l0 k1 a0 y379 (wrap64 (x5_1 + 1)) (wrap64 (x5_1 + 1))) = some r := by first | (rw [hy379]; with_reducible exact H) | (have H2_ := (Option.bind_some _ _).symm.trans H; rw [hy379]; with_reducible exact H2_) | (have H2_ := (Option.bind_some _ _).symm.trans H; with_reducible exact H2_) | with_reducible exact H | (rw [hy379]; exact H) | exact H
   have Ny379 := am hy379
   clear hy379
   have H' := am H
   clear H
   have p13 : 0 ≤ (x5_1 : Int) := od
   have q13 : x5_1 < (a0.size : Int) := od
   have hx13 := bt_at a0 x5_1
   replace p13 := eq_true p13
   replace q13 := eq_true q13
   go_wp2_with (first | ((with_reducible refine gate_builtin (b := .append) (xs := #[.tmp 23, .tmp 28]) rfl ?_); at_builtin; refine Kd.R_append Kd.string (w0 := w) w.heap.size rfl (.tmp 23) (.tmp 28) 35 9 (.string ⟨#[]⟩) 16 rfl Tryz.underlying35 info9 rfl (by decide) (by omega) u3 x3_1 (a0.extract (x4_1 : Int).toNat (x5_1 : Int).toNat) [.string (a0.extract (x4_1 : Int).toNat (x5_1 : Int).toNat)] (fun _ => True) (fun _ => False) rfl rfl ?aP (fun _ hk => hk.elim) ?aF ?aO ?aB ?aS ?aL ?_; (case aP => exact rfl); (case aB => exact bl); (case aF => exact (fun _ _ => trivial)); (case aO => exact (ro HO_3)); (case aS => exact (below_size bl)); (case aL => have := LMc18.out; omega); intro v380 w19 ho hb hg hat; rw [← Ny379.out] at ho; have n0_ := am (hb); have n1_ := am (ho); clear HB; clear HO_3; have HB := n0_; have HO381 := n1_; clear n0_ n1_; clear ho hb hg hat))
   go_roundg k1
   case measure => have := HK1.out; omega
   case rel => exact ⟨(y379), (wrap64 (x5_1 + 1)), (wrap64 (x5_1 + 1)), rs, rs, H', ⟨by have := HK1.out; omega⟩, ⟨by (with_reducible repeat (first | apply Kd.R_alloc | apply Kd.R_drewN | apply Kd.R_drew)); exact HO381.out⟩, ⟨u65HB⟩⟩

end Go.Proofs.YtjckfmipegemcaaGreatDoor.All
