-- Written by a program of this session (wip/tools/hprint.py) out of the translation. Lean checks it.
import Derived.Test.YtiinmfjbildclaaDoorAllx0
import Derived.Test.YtiinmfjbildclaaDoorAllx47
import Derived.Test.YtiinmfjbildclaaDoorAllx49
import Derived.Test.YtiinmfjbildclaaDoorAllx50
import Derived.Test.YtiinmfjbildclaaDoorAllx53
import Derived.Test.YtiinmfjbildclaaDoorAllx54
namespace Go.Proofs.YtiinmfjbildclaaDoor.All
open Go.RowKit Go.Proofs.YtiinmfjbildclaaDoorW.PrintWords Go.Proofs.YtiinmfjbildclaaDoorW.PrintLast Go.Proofs.YtiinmfjbildclaaDoorW.PrintMore
attribute [local go_sem] max2_int min2_int max_two min_two max_three min_three max_four min_four   -- for this text's walks alone
set_option linter.unusedVariables false
set_option linter.unusedSimpArgs false

/-! ### laws_FnExactHits: function 10 -/
def laws_FnExactHits.f (k : Nat) (a0_0 : Int) (a0_1 : ByteArray) (a0_2 : ByteArray) (a0_3 : Int) (a1_0 : ByteArray) (l1_1 : List ByteArray) (l1_2 : List ByteArray) (a1_3 : Int) (l1_4 : List (S113)) (a1_5 : ByteArray) (a1_6 : Int) : Option (Bool) := (laws_szBan.f a0_0 a0_1 a0_2 a0_3 1048576).bind fun t1252 => (if t1252 < 0 then (some true) else ((laws_szObj.f k a1_0 l1_1 l1_2 a1_3 l1_4 a1_5 a1_6 t1252).bind fun t1253 => (if t1253 < 0 then (some true) else ((laws_toBan.f a0_0 a0_1 a0_2 a0_3).bind fun bt1254 => ((laws_toObj.f k a1_0 l1_1 l1_2 a1_3 l1_4 a1_5 a1_6).bind fun bt1258 => ((spec_Hits.f k bt1254.1 bt1254.2.1 bt1254.2.2.1 bt1254.2.2.2 bt1258.1 bt1258.2.1 bt1258.2.2.1 bt1258.2.2.2.1 bt1258.2.2.2.2.1 bt1258.2.2.2.2.2.1 bt1258.2.2.2.2.2.2).bind fun t1271 => ((laws_toObj.f k a1_0 l1_1 l1_2 a1_3 l1_4 a1_5 a1_6).bind fun bt1272 => ((laws_toBan.f a0_0 a0_1 a0_2 a0_3).bind fun bt1286 => ((impl_Hits.f k bt1286.1 bt1286.2.1 bt1286.2.2.1 bt1286.2.2.2 bt1272.1 bt1272.2.1 bt1272.2.2.1 bt1272.2.2.2.1 bt1272.2.2.2.2.1 bt1272.2.2.2.2.2.1 bt1272.2.2.2.2.2.2).bind fun t1290 => (if (t1290 != t1271) = true then (some false) else ((laws_toObj.f k a1_0 l1_1 l1_2 a1_3 l1_4 a1_5 a1_6).bind fun bt1291 => ((laws_eqObj.f k bt1272.1 bt1272.2.1 bt1272.2.2.1 bt1272.2.2.2.1 bt1272.2.2.2.2.1 bt1272.2.2.2.2.2.1 bt1272.2.2.2.2.2.2 bt1291.1 bt1291.2.1 bt1291.2.2.1 bt1291.2.2.2.1 bt1291.2.2.2.2.1 bt1291.2.2.2.2.2.1 bt1291.2.2.2.2.2.2).bind fun t1304 => (if t1304 = true then (some true) else (some false))))))))))))))
theorem laws_FnExactHits.mono : ∀ a0 a1 a2 a3 a4 a5 a6 a7 a8 a9 a10 k, LeO (laws_FnExactHits.f k a0 a1 a2 a3 a4 a5 a6 a7 a8 a9 a10) (laws_FnExactHits.f (k + 1) a0 a1 a2 a3 a4 a5 a6 a7 a8 a9 a10) := by
 intro a0 a1 a2 a3 a4 a5 a6 a7 a8 a9 a10 k
 unfold laws_FnExactHits.f
 repeat' first
   | (with_reducible exact impl_Hits.mono _ _ _ _ _ _ _ _ _ _ _ _)
   | (with_reducible exact laws_eqObj.mono _ _ _ _ _ _ _ _ _ _ _ _ _ _ _)
   | (with_reducible exact laws_szObj.mono _ _ _ _ _ _ _ _ _)
   | (with_reducible exact laws_toObj.mono _ _ _ _ _ _ _ _)
   | (with_reducible exact spec_Hits.mono _ _ _ _ _ _ _ _ _ _ _ _)
   | (with_reducible exact LeO.refl _)
   | (with_reducible exact LeO.none _)
   | (with_reducible refine LeO.ite ?_ ?_)
   | (with_reducible refine LeO.bind ?_ (fun _ => ?_))
   | exact impl_Hits.mono _ _ _ _ _ _ _ _ _ _ _ _
   | exact laws_eqObj.mono _ _ _ _ _ _ _ _ _ _ _ _ _ _ _
   | exact laws_szObj.mono _ _ _ _ _ _ _ _ _
   | exact laws_toObj.mono _ _ _ _ _ _ _ _
   | exact spec_Hits.mono _ _ _ _ _ _ _ _ _ _ _ _
   | exact LeO.none _
   | refine LeO.ite ?_ ?_
   | refine LeO.bind ?_ (fun _ => ?_)
set_option maxHeartbeats 8000000 in
set_option maxRecDepth 100000 in
theorem laws_FnExactHits.calls (k : Nat) (a0_0 : Int) (a0_1 : ByteArray) (a0_2 : ByteArray) (a0_3 : Int) (a1_0 : ByteArray) (A1_1 : Option Addr) (c1_1 : Nat) (l1_1 : List ByteArray) (A1_2 : Option Addr) (c1_2 : Nat) (l1_2 : List ByteArray) (a1_3 : Int) (A1_4 : Option Addr) (c1_4 : Nat) (l1_4 : List (S113)) (a1_5 : ByteArray) (a1_6 : Int) (r : Bool) (w : World) (hGM : GLOBM w) (hr1_1 : Kd.C Kd.string w A1_1 l1_1.length l1_1) (hc1_1 : l1_1.length ≤ c1_1) (hr1_2 : Kd.C Kd.string w A1_2 l1_2.length l1_2) (hc1_2 : l1_2.length ≤ c1_2) (hr1_4 : Kd.C k113 w A1_4 l1_4.length l1_4) (hc1_4 : l1_4.length ≤ c1_4) (ht_ : r = true) (h : laws_FnExactHits.f k a0_0 a0_1 a0_2 a0_3 a1_0 l1_1 l1_2 a1_3 l1_4 a1_5 a1_6 = some r) :
  Calls Tryd.prog 10 #[.agg #[.int .i64 a0_0, .string a0_1, .string a0_2, .int .i64 a0_3], .agg #[.string a1_0, .slice A1_1 l1_1.length c1_1, .slice A1_2 l1_2.length c1_2, .int .i64 a1_3, .slice A1_4 l1_4.length c1_4, .string a1_5, .int .i64 a1_6]] w fun e w' => e = .returned (.bool r) ∧ Below w.heap.size w w' := by
 have hu81 := Tryd.underlying81
 have hu72 := Tryd.underlying72
 have hu76 := Tryd.underlying76
 have HR1_1 := am hr1_1
 have HC1_1 := am hc1_1
 clear hr1_1 hc1_1
 have HR1_2 := am hr1_2
 have HC1_2 := am hc1_2
 clear hr1_2 hc1_2
 have HR1_4 := am hr1_4
 have HC1_4 := am hc1_4
 clear hr1_4 hc1_4
 have HGM := am hGM
 clear hGM
 have HB := am (Below.refl w.heap.size w)
 have H : ((laws_szBan.f a0_0 a0_1 a0_2 a0_3 1048576).bind fun t1252 => (if t1252 < 0 then (some true) else ((laws_szObj.f k a1_0 l1_1 l1_2 a1_3 l1_4 a1_5 a1_6 t1252).bind fun t1253 => (if t1253 < 0 then (some true) else ((laws_toBan.f a0_0 a0_1 a0_2 a0_3).bind fun bt1254 => ((laws_toObj.f k a1_0 l1_1 l1_2 a1_3 l1_4 a1_5 a1_6).bind fun bt1258 => ((spec_Hits.f k bt1254.1 bt1254.2.1 bt1254.2.2.1 bt1254.2.2.2 bt1258.1 bt1258.2.1 bt1258.2.2.1 bt1258.2.2.2.1 bt1258.2.2.2.2.1 bt1258.2.2.2.2.2.1 bt1258.2.2.2.2.2.2).bind fun t1271 => ((laws_toObj.f k a1_0 l1_1 l1_2 a1_3 l1_4 a1_5 a1_6).bind fun bt1272 => ((laws_toBan.f a0_0 a0_1 a0_2 a0_3).bind fun bt1286 => ((impl_Hits.f k bt1286.1 bt1286.2.1 bt1286.2.2.1 bt1286.2.2.2 bt1272.1 bt1272.2.1 bt1272.2.2.1 bt1272.2.2.2.1 bt1272.2.2.2.2.1 bt1272.2.2.2.2.2.1 bt1272.2.2.2.2.2.2).bind fun t1290 => (if (t1290 != t1271) = true then (some false) else ((laws_toObj.f k a1_0 l1_1 l1_2 a1_3 l1_4 a1_5 a1_6).bind fun bt1291 => ((laws_eqObj.f k bt1272.1 bt1272.2.1 bt1272.2.2.1 bt1272.2.2.2.1 bt1272.2.2.2.2.1 bt1272.2.2.2.2.2.1 bt1272.2.2.2.2.2.2 bt1291.1 bt1291.2.1 bt1291.2.2.1 bt1291.2.2.2.1 bt1291.2.2.2.2.1 bt1291.2.2.2.2.2.1 bt1291.2.2.2.2.2.2).bind fun t1304 => (if t1304 = true then (some true) else (some false))))))))))))))) = some r := h
 clear h
 replace H := ob H
 obtain ⟨t1252, A30, H⟩ := H
 replace H : (if t1252 < 0 then (some true) else ((laws_szObj.f k a1_0 l1_1 l1_2 a1_3 l1_4 a1_5 a1_6 t1252).bind fun t1253 => (if t1253 < 0 then (some true) else ((laws_toBan.f a0_0 a0_1 a0_2 a0_3).bind fun bt1254 => ((laws_toObj.f k a1_0 l1_1 l1_2 a1_3 l1_4 a1_5 a1_6).bind fun bt1258 => ((spec_Hits.f k bt1254.1 bt1254.2.1 bt1254.2.2.1 bt1254.2.2.2 bt1258.1 bt1258.2.1 bt1258.2.2.1 bt1258.2.2.2.1 bt1258.2.2.2.2.1 bt1258.2.2.2.2.2.1 bt1258.2.2.2.2.2.2).bind fun t1271 => ((laws_toObj.f k a1_0 l1_1 l1_2 a1_3 l1_4 a1_5 a1_6).bind fun bt1272 => ((laws_toBan.f a0_0 a0_1 a0_2 a0_3).bind fun bt1286 => ((impl_Hits.f k bt1286.1 bt1286.2.1 bt1286.2.2.1 bt1286.2.2.2 bt1272.1 bt1272.2.1 bt1272.2.2.1 bt1272.2.2.2.1 bt1272.2.2.2.2.1 bt1272.2.2.2.2.2.1 bt1272.2.2.2.2.2.2).bind fun t1290 => (if (t1290 != t1271) = true then (some false) else ((laws_toObj.f k a1_0 l1_1 l1_2 a1_3 l1_4 a1_5 a1_6).bind fun bt1291 => ((laws_eqObj.f k bt1272.1 bt1272.2.1 bt1272.2.2.1 bt1272.2.2.2.1 bt1272.2.2.2.2.1 bt1272.2.2.2.2.2.1 bt1272.2.2.2.2.2.2 bt1291.1 bt1291.2.1 bt1291.2.2.1 bt1291.2.2.2.1 bt1291.2.2.2.2.1 bt1291.2.2.2.2.2.1 bt1291.2.2.2.2.2.2).bind fun t1304 => (if t1304 = true then (some true) else (some false)))))))))))))) = some r := H
 have A3 := am A30
 clear A30
 by_cases c4 : t1252 < 0
 ·rw [if_pos c4] at H
  have c4b0 : decide (t1252 < 0) = true := decide_eq_true c4
  clear c4
  obtain rfl := Option.some.inj H
  go_enter Tryd.func10, Tryd.ntmps10
  go_wp2_with (first | ((with_reducible refine gate_dst (N := 2) rfl ?_); refine box_event ?hg (N := 2) ?hd (cs := #[.int .i64 a0_0, .string a0_1, .string a0_2, .int .i64 a0_3]) (t := 81) ?hr ?_; (case hd => rfl); (case hg => rfl); (case hr => first | (go_simp; done) | (go_simp; rfl)); intro gb1250 hg w5 hbox hb; have n0_ := am (below_step bl hb); have n1_ := am (hbox); have n2_ := am (sz hg : w.heap.size ≤ gb1250); have n3_ := am (sz hg : w.heap.size ≤ gb1250); clear HB; have HB := n0_; have BK1250 := n1_; have GW1250 := n2_; have GE1250 := n3_; clear n0_ n1_ n2_ n3_; clear hb hbox hg) | ((with_reducible refine gate_dst (N := 3) rfl ?_); refine box_event ?hg (N := 3) ?hd (cs := #[.string a1_0, .slice A1_1 l1_1.length c1_1, .slice A1_2 l1_2.length c1_2, .int .i64 a1_3, .slice A1_4 l1_4.length c1_4, .string a1_5, .int .i64 a1_6]) (t := 72) ?hr ?_; (case hd => rfl); (case hg => rfl); (case hr => first | (go_simp; done) | (go_simp; rfl)); intro gb1251 hg w6 hbox hb; have n0_ := kb BK1250 hb; have n1_ := am (below_step bl hb); have n2_ := am (hbox); have n3_ := am (sz hg : w.heap.size ≤ gb1251); have n4_ := am (sz hg : w.heap.size ≤ gb1251); have n5_ := am (nl hg BK1250 : gb1250 ≠ gb1251); have n6_ := am (ng hg BK1250 : gb1251 ≠ gb1250); clear BK1250; clear HB; have BK1250 := n0_; have HB := n1_; have BK1251 := n2_; have GW1251 := n3_; have GE1251 := n4_; have NB1250_1251 := n5_; have NB1251_1250 := n6_; clear n0_ n1_ n2_ n3_ n4_ n5_ n6_; clear hb hbox hg; have hnb7 := NB1250_1251.out; have hnc7 := NB1251_1250.out; have hcz8_0 : w6.cell? ⟨gb1250, 0, none⟩ = some (.int .i64 a0_0) := bc BK1250; have hcz8_1 : w6.cell? ⟨gb1250, 1, none⟩ = some (.string a0_1) := bc BK1250; have hcz8_2 : w6.cell? ⟨gb1250, 2, none⟩ = some (.string a0_2) := bc BK1250; have hcz8_3 : w6.cell? ⟨gb1250, 3, none⟩ = some (.int .i64 a0_3) := bc BK1250; have hfz8_0 := blk_frozen BK1250.out 0; have hfz8_1 := blk_frozen BK1250.out 1; have hfz8_2 := blk_frozen BK1250.out 2; have hfz8_3 := blk_frozen BK1250.out 3) | ((with_reducible refine gate_callee (f := 64) rfl ?_); refine goesL_ (some 11) rfl rfl Tryd.func64 (by kernel_rfl) rfl #[.agg #[.int .i64 a0_0, .string a0_1, .string a0_2, .int .i64 a0_3], .int .i64 1048576] rfl ma ?_; (with_reducible refine (laws_szBan.calls a0_0 a0_1 a0_2 a0_3 1048576 t1252 _ A3.out).mono ?_); rintro e w9 ⟨rfl, hb⟩; refine ⟨_, rfl, ?_⟩; replace BK1250 := kb BK1250 hb; replace BK1251 := kb BK1251 hb; replace HB := am (below_step bl hb); (try clear hb); (try clear hb2); (try clear hk); (try clear hi)))
  go_ret
  exact ⟨rf, bl⟩
 ·rw [if_neg c4] at H
  have c4b0 : decide (t1252 < 0) = false := decide_eq_false c4
  clear c4
  replace H := ob H
  obtain ⟨t1253, A100, H⟩ := H
  replace H : (if t1253 < 0 then (some true) else ((laws_toBan.f a0_0 a0_1 a0_2 a0_3).bind fun bt1254 => ((laws_toObj.f k a1_0 l1_1 l1_2 a1_3 l1_4 a1_5 a1_6).bind fun bt1258 => ((spec_Hits.f k bt1254.1 bt1254.2.1 bt1254.2.2.1 bt1254.2.2.2 bt1258.1 bt1258.2.1 bt1258.2.2.1 bt1258.2.2.2.1 bt1258.2.2.2.2.1 bt1258.2.2.2.2.2.1 bt1258.2.2.2.2.2.2).bind fun t1271 => ((laws_toObj.f k a1_0 l1_1 l1_2 a1_3 l1_4 a1_5 a1_6).bind fun bt1272 => ((laws_toBan.f a0_0 a0_1 a0_2 a0_3).bind fun bt1286 => ((impl_Hits.f k bt1286.1 bt1286.2.1 bt1286.2.2.1 bt1286.2.2.2 bt1272.1 bt1272.2.1 bt1272.2.2.1 bt1272.2.2.2.1 bt1272.2.2.2.2.1 bt1272.2.2.2.2.2.1 bt1272.2.2.2.2.2.2).bind fun t1290 => (if (t1290 != t1271) = true then (some false) else ((laws_toObj.f k a1_0 l1_1 l1_2 a1_3 l1_4 a1_5 a1_6).bind fun bt1291 => ((laws_eqObj.f k bt1272.1 bt1272.2.1 bt1272.2.2.1 bt1272.2.2.2.1 bt1272.2.2.2.2.1 bt1272.2.2.2.2.2.1 bt1272.2.2.2.2.2.2 bt1291.1 bt1291.2.1 bt1291.2.2.1 bt1291.2.2.2.1 bt1291.2.2.2.2.1 bt1291.2.2.2.2.2.1 bt1291.2.2.2.2.2.2).bind fun t1304 => (if t1304 = true then (some true) else (some false)))))))))))) = some r := H
  have A10 := am A100
  clear A100
  by_cases c11 : t1253 < 0
  ·rw [if_pos c11] at H
   have c11b0 : decide (t1253 < 0) = true := decide_eq_true c11
   clear c11
   obtain rfl := Option.some.inj H
   go_enter Tryd.func10, Tryd.ntmps10
   go_wp2_with (first | ((with_reducible refine gate_dst (N := 2) rfl ?_); refine box_event ?hg (N := 2) ?hd (cs := #[.int .i64 a0_0, .string a0_1, .string a0_2, .int .i64 a0_3]) (t := 81) ?hr ?_; (case hd => rfl); (case hg => rfl); (case hr => first | (go_simp; done) | (go_simp; rfl)); intro gb1250 hg w12 hbox hb; have n0_ := am (below_step bl hb); have n1_ := am (hbox); have n2_ := am (sz hg : w.heap.size ≤ gb1250); have n3_ := am (sz hg : w.heap.size ≤ gb1250); clear HB; have HB := n0_; have BK1250 := n1_; have GW1250 := n2_; have GE1250 := n3_; clear n0_ n1_ n2_ n3_; clear hb hbox hg) | ((with_reducible refine gate_dst (N := 3) rfl ?_); refine box_event ?hg (N := 3) ?hd (cs := #[.string a1_0, .slice A1_1 l1_1.length c1_1, .slice A1_2 l1_2.length c1_2, .int .i64 a1_3, .slice A1_4 l1_4.length c1_4, .string a1_5, .int .i64 a1_6]) (t := 72) ?hr ?_; (case hd => rfl); (case hg => rfl); (case hr => first | (go_simp; done) | (go_simp; rfl)); intro gb1251 hg w13 hbox hb; have n0_ := kb BK1250 hb; have n1_ := am (below_step bl hb); have n2_ := am (hbox); have n3_ := am (sz hg : w.heap.size ≤ gb1251); have n4_ := am (sz hg : w.heap.size ≤ gb1251); have n5_ := am (nl hg BK1250 : gb1250 ≠ gb1251); have n6_ := am (ng hg BK1250 : gb1251 ≠ gb1250); clear BK1250; clear HB; have BK1250 := n0_; have HB := n1_; have BK1251 := n2_; have GW1251 := n3_; have GE1251 := n4_; have NB1250_1251 := n5_; have NB1251_1250 := n6_; clear n0_ n1_ n2_ n3_ n4_ n5_ n6_; clear hb hbox hg; have hnb14 := NB1250_1251.out; have hnc14 := NB1251_1250.out; have hcz15_0 : w13.cell? ⟨gb1250, 0, none⟩ = some (.int .i64 a0_0) := bc BK1250; have hcz15_1 : w13.cell? ⟨gb1250, 1, none⟩ = some (.string a0_1) := bc BK1250; have hcz15_2 : w13.cell? ⟨gb1250, 2, none⟩ = some (.string a0_2) := bc BK1250; have hcz15_3 : w13.cell? ⟨gb1250, 3, none⟩ = some (.int .i64 a0_3) := bc BK1250; have hfz15_0 := blk_frozen BK1250.out 0; have hfz15_1 := blk_frozen BK1250.out 1; have hfz15_2 := blk_frozen BK1250.out 2; have hfz15_3 := blk_frozen BK1250.out 3) | ((with_reducible refine gate_callee (f := 64) rfl ?_); refine goesL_ (some 11) rfl rfl Tryd.func64 (by kernel_rfl) rfl #[.agg #[.int .i64 a0_0, .string a0_1, .string a0_2, .int .i64 a0_3], .int .i64 1048576] rfl ma ?_; (with_reducible refine (laws_szBan.calls a0_0 a0_1 a0_2 a0_3 1048576 t1252 _ A3.out).mono ?_); rintro e w16 ⟨rfl, hb⟩; refine ⟨_, rfl, ?_⟩; replace BK1250 := kb BK1250 hb; replace BK1251 := kb BK1251 hb; replace HB := am (below_step bl hb); (try clear hb); (try clear hb2); (try clear hk); (try clear hi); have hcz17_0 : w16.cell? ⟨gb1251, 0, none⟩ = some (.string a1_0) := bc BK1251; have hcz17_1 : w16.cell? ⟨gb1251, 1, none⟩ = some (.slice A1_1 l1_1.length c1_1) := bc BK1251; have hcz17_2 : w16.cell? ⟨gb1251, 2, none⟩ = some (.slice A1_2 l1_2.length c1_2) := bc BK1251; have hcz17_3 : w16.cell? ⟨gb1251, 3, none⟩ = some (.int .i64 a1_3) := bc BK1251; have hcz17_4 : w16.cell? ⟨gb1251, 4, none⟩ = some (.slice A1_4 l1_4.length c1_4) := bc BK1251; have hcz17_5 : w16.cell? ⟨gb1251, 5, none⟩ = some (.string a1_5) := bc BK1251; have hcz17_6 : w16.cell? ⟨gb1251, 6, none⟩ = some (.int .i64 a1_6) := bc BK1251; have hfz17_0 := blk_frozen BK1251.out 0; have hfz17_1 := blk_frozen BK1251.out 1; have hfz17_2 := blk_frozen BK1251.out 2; have hfz17_3 := blk_frozen BK1251.out 3; have hfz17_4 := blk_frozen BK1251.out 4; have hfz17_5 := blk_frozen BK1251.out 5; have hfz17_6 := blk_frozen BK1251.out 6) | ((with_reducible refine gate_callee (f := 59) rfl ?_); refine goesL_ (some 16) rfl rfl Tryd.func59 (by kernel_rfl) rfl #[.agg #[.string a1_0, .slice A1_1 l1_1.length c1_1, .slice A1_2 l1_2.length c1_2, .int .i64 a1_3, .slice A1_4 l1_4.length c1_4, .string a1_5, .int .i64 a1_6], .int .i64 t1252] rfl ma ?_; (with_reducible refine (laws_szObj.calls k a1_0 _ _ l1_1 _ _ l1_2 a1_3 _ _ l1_4 a1_5 a1_6 t1252 t1253 _ ?side1 ?side2 ?side3 ?side4 ?side5 ?side6 A10.out).mono ?_); (case side1 => exact cb HR1_1); (case side2 => exact HC1_1.out); (case side3 => exact cb HR1_2); (case side4 => exact HC1_2.out); (case side5 => exact cb HR1_4); (case side6 => exact HC1_4.out); rintro e w18 ⟨rfl, hb⟩; refine ⟨_, rfl, ?_⟩; replace BK1250 := kb BK1250 hb; replace BK1251 := kb BK1251 hb; replace HB := am (below_step bl hb); (try clear hb); (try clear hb2); (try clear hk); (try clear hi)))
   go_ret
   exact ⟨rf, bl⟩
  ·rw [if_neg c11] at H
   have c11b0 : decide (t1253 < 0) = false := decide_eq_false c11
   clear c11
   replace H := ob H
   obtain ⟨⟨t1254, t1255, t1256, t1257⟩, A190, H⟩ := H
   replace H : ((laws_toObj.f k a1_0 l1_1 l1_2 a1_3 l1_4 a1_5 a1_6).bind fun bt1258 => ((spec_Hits.f k t1254 t1255 t1256 t1257 bt1258.1 bt1258.2.1 bt1258.2.2.1 bt1258.2.2.2.1 bt1258.2.2.2.2.1 bt1258.2.2.2.2.2.1 bt1258.2.2.2.2.2.2).bind fun t1271 => ((laws_toObj.f k a1_0 l1_1 l1_2 a1_3 l1_4 a1_5 a1_6).bind fun bt1272 => ((laws_toBan.f a0_0 a0_1 a0_2 a0_3).bind fun bt1286 => ((impl_Hits.f k bt1286.1 bt1286.2.1 bt1286.2.2.1 bt1286.2.2.2 bt1272.1 bt1272.2.1 bt1272.2.2.1 bt1272.2.2.2.1 bt1272.2.2.2.2.1 bt1272.2.2.2.2.2.1 bt1272.2.2.2.2.2.2).bind fun t1290 => (if (t1290 != t1271) = true then (some false) else ((laws_toObj.f k a1_0 l1_1 l1_2 a1_3 l1_4 a1_5 a1_6).bind fun bt1291 => ((laws_eqObj.f k bt1272.1 bt1272.2.1 bt1272.2.2.1 bt1272.2.2.2.1 bt1272.2.2.2.2.1 bt1272.2.2.2.2.2.1 bt1272.2.2.2.2.2.2 bt1291.1 bt1291.2.1 bt1291.2.2.1 bt1291.2.2.2.1 bt1291.2.2.2.2.1 bt1291.2.2.2.2.2.1 bt1291.2.2.2.2.2.2).bind fun t1304 => (if t1304 = true then (some true) else (some false)))))))))) = some r := H
   have A19 := am A190
   clear A190
   replace H := ob H
   obtain ⟨⟨t1258, t1259, t1262, t1265, t1266, t1269, t1270⟩, A200, H⟩ := H
   replace H : ((spec_Hits.f k t1254 t1255 t1256 t1257 t1258 t1259 t1262 t1265 t1266 t1269 t1270).bind fun t1271 => ((laws_toObj.f k a1_0 l1_1 l1_2 a1_3 l1_4 a1_5 a1_6).bind fun bt1272 => ((laws_toBan.f a0_0 a0_1 a0_2 a0_3).bind fun bt1286 => ((impl_Hits.f k bt1286.1 bt1286.2.1 bt1286.2.2.1 bt1286.2.2.2 bt1272.1 bt1272.2.1 bt1272.2.2.1 bt1272.2.2.2.1 bt1272.2.2.2.2.1 bt1272.2.2.2.2.2.1 bt1272.2.2.2.2.2.2).bind fun t1290 => (if (t1290 != t1271) = true then (some false) else ((laws_toObj.f k a1_0 l1_1 l1_2 a1_3 l1_4 a1_5 a1_6).bind fun bt1291 => ((laws_eqObj.f k bt1272.1 bt1272.2.1 bt1272.2.2.1 bt1272.2.2.2.1 bt1272.2.2.2.2.1 bt1272.2.2.2.2.2.1 bt1272.2.2.2.2.2.2 bt1291.1 bt1291.2.1 bt1291.2.2.1 bt1291.2.2.2.1 bt1291.2.2.2.2.1 bt1291.2.2.2.2.2.1 bt1291.2.2.2.2.2.2).bind fun t1304 => (if t1304 = true then (some true) else (some false))))))))) = some r := H
   have A20 := am A200
   clear A200
   replace H := ob H
   obtain ⟨t1271, A210, H⟩ := H
   replace H : ((laws_toObj.f k a1_0 l1_1 l1_2 a1_3 l1_4 a1_5 a1_6).bind fun bt1272 => ((laws_toBan.f a0_0 a0_1 a0_2 a0_3).bind fun bt1286 => ((impl_Hits.f k bt1286.1 bt1286.2.1 bt1286.2.2.1 bt1286.2.2.2 bt1272.1 bt1272.2.1 bt1272.2.2.1 bt1272.2.2.2.1 bt1272.2.2.2.2.1 bt1272.2.2.2.2.2.1 bt1272.2.2.2.2.2.2).bind fun t1290 => (if (t1290 != t1271) = true then (some false) else ((laws_toObj.f k a1_0 l1_1 l1_2 a1_3 l1_4 a1_5 a1_6).bind fun bt1291 => ((laws_eqObj.f k bt1272.1 bt1272.2.1 bt1272.2.2.1 bt1272.2.2.2.1 bt1272.2.2.2.2.1 bt1272.2.2.2.2.2.1 bt1272.2.2.2.2.2.2 bt1291.1 bt1291.2.1 bt1291.2.2.1 bt1291.2.2.2.1 bt1291.2.2.2.2.1 bt1291.2.2.2.2.2.1 bt1291.2.2.2.2.2.2).bind fun t1304 => (if t1304 = true then (some true) else (some false)))))))) = some r := H
   have A21 := am A210
   clear A210
   replace H := ob H
   obtain ⟨⟨t1272, t1273, t1276, t1279, t1280, t1283, t1284⟩, A220, H⟩ := H
   replace H : ((laws_toBan.f a0_0 a0_1 a0_2 a0_3).bind fun bt1286 => ((impl_Hits.f k bt1286.1 bt1286.2.1 bt1286.2.2.1 bt1286.2.2.2 t1272 t1273 t1276 t1279 t1280 t1283 t1284).bind fun t1290 => (if (t1290 != t1271) = true then (some false) else ((laws_toObj.f k a1_0 l1_1 l1_2 a1_3 l1_4 a1_5 a1_6).bind fun bt1291 => ((laws_eqObj.f k t1272 t1273 t1276 t1279 t1280 t1283 t1284 bt1291.1 bt1291.2.1 bt1291.2.2.1 bt1291.2.2.2.1 bt1291.2.2.2.2.1 bt1291.2.2.2.2.2.1 bt1291.2.2.2.2.2.2).bind fun t1304 => (if t1304 = true then (some true) else (some false))))))) = some r := H
   have A22 := am A220
   clear A220
   replace H := ob H
   obtain ⟨⟨t1286, t1287, t1288, t1289⟩, A230, H⟩ := H
   replace H : ((impl_Hits.f k t1286 t1287 t1288 t1289 t1272 t1273 t1276 t1279 t1280 t1283 t1284).bind fun t1290 => (if (t1290 != t1271) = true then (some false) else ((laws_toObj.f k a1_0 l1_1 l1_2 a1_3 l1_4 a1_5 a1_6).bind fun bt1291 => ((laws_eqObj.f k t1272 t1273 t1276 t1279 t1280 t1283 t1284 bt1291.1 bt1291.2.1 bt1291.2.2.1 bt1291.2.2.2.1 bt1291.2.2.2.2.1 bt1291.2.2.2.2.2.1 bt1291.2.2.2.2.2.2).bind fun t1304 => (if t1304 = true then (some true) else (some false)))))) = some r := H
   have A23 := am A230
   clear A230
   replace H := ob H
   obtain ⟨t1290, A240, H⟩ := H
   replace H : (if (t1290 != t1271) = true then (some false) else ((laws_toObj.f k a1_0 l1_1 l1_2 a1_3 l1_4 a1_5 a1_6).bind fun bt1291 => ((laws_eqObj.f k t1272 t1273 t1276 t1279 t1280 t1283 t1284 bt1291.1 bt1291.2.1 bt1291.2.2.1 bt1291.2.2.2.1 bt1291.2.2.2.2.1 bt1291.2.2.2.2.2.1 bt1291.2.2.2.2.2.2).bind fun t1304 => (if t1304 = true then (some true) else (some false))))) = some r := H
   have A24 := am A240
   clear A240
   by_cases c25 : (t1290 != t1271) = true
   ·rw [if_pos c25] at H
    have c25b0 : (t1290 != t1271) = true := c25
    (try (have c25b1 : decide (t1290 = t1271) = false := by simpa using c25))
    (try (have c25b2 : (t1290 == t1271) = false := by simpa using c25))
    (try (have c25b3 : ¬ (t1290 = t1271) := by simpa using c25))
    clear c25
    exact absurd (Option.some.inj H) (by rw [ht_]; decide)
   ·rw [if_neg c25] at H
    have c25b0 : (t1290 != t1271) = false := by simpa using c25
    (try (have c25b1 : decide (t1290 = t1271) = true := by simpa using c25))
    (try (have c25b2 : (t1290 == t1271) = true := by simpa using c25))
    clear c25
    replace H := ob H
    obtain ⟨⟨t1291, t1292, t1295, t1298, t1299, t1302, t1303⟩, A260, H⟩ := H
    replace H : ((laws_eqObj.f k t1272 t1273 t1276 t1279 t1280 t1283 t1284 t1291 t1292 t1295 t1298 t1299 t1302 t1303).bind fun t1304 => (if t1304 = true then (some true) else (some false))) = some r := H
    have A26 := am A260
    clear A260
    replace H := ob H
    obtain ⟨t1304, A270, H⟩ := H
    replace H : (if t1304 = true then (some true) else (some false)) = some r := H
    have A27 := am A270
    clear A270
    by_cases c28 : t1304 = true
    ·subst c28
     have H1 : (some true) = some r := by rw [if_pos rfl] at H; exact H
     clear H
     have H := H1
     clear H1
     obtain rfl := Option.some.inj H
     go_enter Tryd.func10, Tryd.ntmps10
     try go_wp2_with (first | ((with_reducible refine gate_dst (N := 2) rfl ?_); refine box_event ?hg (N := 2) ?hd (cs := #[.int .i64 a0_0, .string a0_1, .string a0_2, .int .i64 a0_3]) (t := 81) ?hr ?_; (case hd => rfl); (case hg => rfl); (case hr => first | (go_simp; done) | (go_simp; rfl)); intro gb1250 hg w29 hbox hb; have n0_ := am (below_step bl hb); have n1_ := am (hbox); have n2_ := am (sz hg : w.heap.size ≤ gb1250); have n3_ := am (sz hg : w.heap.size ≤ gb1250); clear HB; have HB := n0_; have BK1250 := n1_; have GW1250 := n2_; have GE1250 := n3_; clear n0_ n1_ n2_ n3_; clear hb hbox hg) | ((with_reducible refine gate_dst (N := 3) rfl ?_); refine box_event ?hg (N := 3) ?hd (cs := #[.string a1_0, .slice A1_1 l1_1.length c1_1, .slice A1_2 l1_2.length c1_2, .int .i64 a1_3, .slice A1_4 l1_4.length c1_4, .string a1_5, .int .i64 a1_6]) (t := 72) ?hr ?_; (case hd => rfl); (case hg => rfl); (case hr => first | (go_simp; done) | (go_simp; rfl)); intro gb1251 hg w30 hbox hb; have n0_ := kb BK1250 hb; have n1_ := am (below_step bl hb); have n2_ := am (hbox); have n3_ := am (sz hg : w.heap.size ≤ gb1251); have n4_ := am (sz hg : w.heap.size ≤ gb1251); have n5_ := am (nl hg BK1250 : gb1250 ≠ gb1251); have n6_ := am (ng hg BK1250 : gb1251 ≠ gb1250); clear BK1250; clear HB; have BK1250 := n0_; have HB := n1_; have BK1251 := n2_; have GW1251 := n3_; have GE1251 := n4_; have NB1250_1251 := n5_; have NB1251_1250 := n6_; clear n0_ n1_ n2_ n3_ n4_ n5_ n6_; clear hb hbox hg; have hnb31 := NB1250_1251.out; have hnc31 := NB1251_1250.out; have hcz32_0 : w30.cell? ⟨gb1250, 0, none⟩ = some (.int .i64 a0_0) := bc BK1250; have hcz32_1 : w30.cell? ⟨gb1250, 1, none⟩ = some (.string a0_1) := bc BK1250; have hcz32_2 : w30.cell? ⟨gb1250, 2, none⟩ = some (.string a0_2) := bc BK1250; have hcz32_3 : w30.cell? ⟨gb1250, 3, none⟩ = some (.int .i64 a0_3) := bc BK1250; have hfz32_0 := blk_frozen BK1250.out 0; have hfz32_1 := blk_frozen BK1250.out 1; have hfz32_2 := blk_frozen BK1250.out 2; have hfz32_3 := blk_frozen BK1250.out 3) | ((with_reducible refine gate_callee (f := 64) rfl ?_); refine goesL_ (some 11) rfl rfl Tryd.func64 (by kernel_rfl) rfl #[.agg #[.int .i64 a0_0, .string a0_1, .string a0_2, .int .i64 a0_3], .int .i64 1048576] rfl ma ?_; (with_reducible refine (laws_szBan.calls a0_0 a0_1 a0_2 a0_3 1048576 t1252 _ A3.out).mono ?_); rintro e w33 ⟨rfl, hb⟩; refine ⟨_, rfl, ?_⟩; replace BK1250 := kb BK1250 hb; replace BK1251 := kb BK1251 hb; replace HB := am (below_step bl hb); (try clear hb); (try clear hb2); (try clear hk); (try clear hi); have hcz34_0 : w33.cell? ⟨gb1251, 0, none⟩ = some (.string a1_0) := bc BK1251; have hcz34_1 : w33.cell? ⟨gb1251, 1, none⟩ = some (.slice A1_1 l1_1.length c1_1) := bc BK1251; have hcz34_2 : w33.cell? ⟨gb1251, 2, none⟩ = some (.slice A1_2 l1_2.length c1_2) := bc BK1251; have hcz34_3 : w33.cell? ⟨gb1251, 3, none⟩ = some (.int .i64 a1_3) := bc BK1251; have hcz34_4 : w33.cell? ⟨gb1251, 4, none⟩ = some (.slice A1_4 l1_4.length c1_4) := bc BK1251; have hcz34_5 : w33.cell? ⟨gb1251, 5, none⟩ = some (.string a1_5) := bc BK1251; have hcz34_6 : w33.cell? ⟨gb1251, 6, none⟩ = some (.int .i64 a1_6) := bc BK1251; have hfz34_0 := blk_frozen BK1251.out 0; have hfz34_1 := blk_frozen BK1251.out 1; have hfz34_2 := blk_frozen BK1251.out 2; have hfz34_3 := blk_frozen BK1251.out 3; have hfz34_4 := blk_frozen BK1251.out 4; have hfz34_5 := blk_frozen BK1251.out 5; have hfz34_6 := blk_frozen BK1251.out 6) | ((with_reducible refine gate_callee (f := 59) rfl ?_); refine goesL_ (some 16) rfl rfl Tryd.func59 (by kernel_rfl) rfl #[.agg #[.string a1_0, .slice A1_1 l1_1.length c1_1, .slice A1_2 l1_2.length c1_2, .int .i64 a1_3, .slice A1_4 l1_4.length c1_4, .string a1_5, .int .i64 a1_6], .int .i64 t1252] rfl ma ?_; (with_reducible refine (laws_szObj.calls k a1_0 _ _ l1_1 _ _ l1_2 a1_3 _ _ l1_4 a1_5 a1_6 t1252 t1253 _ ?side1 ?side2 ?side3 ?side4 ?side5 ?side6 A10.out).mono ?_); (case side1 => exact cb HR1_1); (case side2 => exact HC1_1.out); (case side3 => exact cb HR1_2); (case side4 => exact HC1_2.out); (case side5 => exact cb HR1_4); (case side6 => exact HC1_4.out); rintro e w35 ⟨rfl, hb⟩; refine ⟨_, rfl, ?_⟩; replace BK1250 := kb BK1250 hb; replace BK1251 := kb BK1251 hb; replace HB := am (below_step bl hb); (try clear hb); (try clear hb2); (try clear hk); (try clear hi)))
     replace BK1250 := am (blk_drew BK1250.out)
     replace BK1251 := am (blk_drew BK1251.out)
     replace HB := am (below_drew1 HB.out)
     refine start_ (n := 6) (S := fun w' => w'.cell? ⟨gb1250, 0, none⟩ = some (.int .i64 a0_0) ∧ w'.cell? ⟨gb1250, 1, none⟩ = some (.string a0_1) ∧ w'.cell? ⟨gb1250, 2, none⟩ = some (.string a0_2) ∧ w'.cell? ⟨gb1250, 3, none⟩ = some (.int .i64 a0_3) ∧ w'.cell? ⟨gb1251, 0, none⟩ = some (.string a1_0) ∧ w'.cell? ⟨gb1251, 1, none⟩ = some (.slice A1_1 l1_1.length c1_1) ∧ w'.cell? ⟨gb1251, 2, none⟩ = some (.slice A1_2 l1_2.length c1_2) ∧ w'.cell? ⟨gb1251, 3, none⟩ = some (.int .i64 a1_3) ∧ w'.cell? ⟨gb1251, 4, none⟩ = some (.slice A1_4 l1_4.length c1_4) ∧ w'.cell? ⟨gb1251, 5, none⟩ = some (.string a1_5) ∧ w'.cell? ⟨gb1251, 6, none⟩ = some (.int .i64 a1_6)) (ds := []) #[false, false, false, false, false, false] (by kernel_rfl) rfl rfl ⟨bc BK1250, bc BK1250, bc BK1250, bc BK1250, bc BK1251, bc BK1251, bc BK1251, bc BK1251, bc BK1251, bc BK1251, bc BK1251⟩ (fun hHeld => ?_)
     generalize w35.drew = w36 at BK1250 BK1251 HB hHeld ⊢
     refine take_ (i := 0) (N := some 19) (v := ?_) (a' := ?_) #[true, false, false, false, false, false] rfl rfl (by kernel_rfl) (fun _ _ _ h => h) (Or.inl ⟨by rfl, ?_⟩) hHeld ?_ ?_
     rotate_left
     ·rintro w' ⟨s0, s1, s2, s3, s4, s5, s6, s7, s8, s9, s10⟩
      go_simp
      with_reducible rfl
     rotate_left
     ·simp only [Act.put, List.setIfInBounds_toArray, List.set_cons_zero, List.set_cons_succ, i64_w, i32_w]
      rfl
     refine take_ (i := 2) (N := some 21) (v := ?_) (a' := ?_) #[true, false, true, false, false, false] rfl rfl (by kernel_rfl) (fun _ _ _ h => h) (Or.inl ⟨by rfl, ?_⟩) hHeld ?_ ?_
     rotate_left
     ·rintro w' ⟨s0, s1, s2, s3, s4, s5, s6, s7, s8, s9, s10⟩
      go_simp
      with_reducible rfl
     rotate_left
     ·simp only [Act.put, List.setIfInBounds_toArray, List.set_cons_zero, List.set_cons_succ, i64_w, i32_w]
      rfl
     refine one_ (i := 1) (N := some 20) #[true, true, true, false, false, false] rfl rfl (by kernel_rfl) (by decide) (fun K hK => ?_)
     refine goes_ Tryd.func66 (by kernel_rfl) rfl #[.agg #[.int .i64 a0_0, .string a0_1, .string a0_2, .int .i64 a0_3]] (by rfl) rfl rfl ma ?_
     with_reducible refine (laws_toBan.calls a0_0 a0_1 a0_2 a0_3 t1254 t1255 t1256 t1257 _ A19.out).mono ?_
     rintro e w37 ⟨rfl, hb⟩
     refine ⟨_, rfl, ?_⟩
     replace BK1250 := kb BK1250 hb
     replace BK1251 := kb BK1251 hb
     replace HB := am (below_step bl hb)
     (try clear hb)
     (try clear hb2)
     (try clear hk)
     (try clear hi)
     refine hK.out _ _ ⟨bc BK1250, bc BK1250, bc BK1250, bc BK1250, bc BK1251, bc BK1251, bc BK1251, bc BK1251, bc BK1251, bc BK1251, bc BK1251⟩ (fun hHeld => ?_)
     clear hK K
     refine norm_ (a' := ?_) ?_ ?_
     rotate_left
     ·show Act.put _ (some 20) _ = _
      simp only [Act.put, List.setIfInBounds_toArray, List.set_cons_zero, List.set_cons_succ, i64_w, i32_w]
      rfl
     refine one_ (i := 3) (N := some 22) #[true, true, true, true, false, false] rfl rfl (by kernel_rfl) (by decide) (fun K hK => ?_)
     refine goes_ Tryd.func61 (by kernel_rfl) rfl #[.agg #[.string a1_0, .slice A1_1 l1_1.length c1_1, .slice A1_2 l1_2.length c1_2, .int .i64 a1_3, .slice A1_4 l1_4.length c1_4, .string a1_5, .int .i64 a1_6]] (by rfl) rfl rfl ma ?_
     with_reducible refine (laws_toObj.calls k a1_0 _ _ l1_1 _ _ l1_2 a1_3 _ _ l1_4 a1_5 a1_6 t1258 t1259 t1262 t1265 t1266 t1269 t1270 _ ?side1 ?side2 ?side3 ?side4 ?side5 ?side6 A20.out).mono ?_
     (case side1 => exact cb HR1_1)
     (case side2 => exact HC1_1.out)
     (case side3 => exact cb HR1_2)
     (case side4 => exact HC1_2.out)
     (case side5 => exact cb HR1_4)
     (case side6 => exact HC1_4.out)
     rintro e w38 ⟨v1260, v1263, v1267, rfl, ho0, ho1, ho2, hb⟩
     refine ⟨_, rfl, ?_⟩
     have HO1261 := am (Kd.R_lower ho0 (below_size bl))
     have HO1264 := am (Kd.R_lower ho1 (below_size bl))
     have HO1268 := am (Kd.R_lower ho2 (below_size bl))
     replace BK1250 := kb BK1250 hb
     replace BK1251 := kb BK1251 hb
     replace HB := am (below_step bl hb)
     (try clear hb)
     (try clear hb2)
     (try clear hk)
     (try clear hi)
     (try clear ho0)
     (try clear ho1)
     (try clear ho2)
     obtain ⟨Ao39, co39, eo39⟩ := Kd.R_slice HO1261.out
     (first | subst eo39 | (injection eo39 with f1_ f2_ f3_; have f4_ := f1_.symm; have f5_ := f3_.symm; clear f1_ f2_ f3_; subst f4_; subst f5_))
     obtain ⟨Ao40, co40, eo40⟩ := Kd.R_slice HO1264.out
     (first | subst eo40 | (injection eo40 with f1_ f2_ f3_; have f4_ := f1_.symm; have f5_ := f3_.symm; clear f1_ f2_ f3_; subst f4_; subst f5_))
     obtain ⟨Ao41, co41, eo41⟩ := Kd.R_slice HO1268.out
     (first | subst eo41 | (injection eo41 with f1_ f2_ f3_; have f4_ := f1_.symm; have f5_ := f3_.symm; clear f1_ f2_ f3_; subst f4_; subst f5_))
     refine hK.out _ _ ⟨bc BK1250, bc BK1250, bc BK1250, bc BK1250, bc BK1251, bc BK1251, bc BK1251, bc BK1251, bc BK1251, bc BK1251, bc BK1251⟩ (fun hHeld => ?_)
     clear hK K
     refine norm_ (a' := ?_) ?_ ?_
     rotate_left
     ·show Act.put _ (some 22) _ = _
      simp only [Act.put, List.setIfInBounds_toArray, List.set_cons_zero, List.set_cons_succ, i64_w, i32_w]
      rfl
     refine one_ (i := 4) (N := some 23) #[true, true, true, true, true, false] rfl rfl (by kernel_rfl) (by decide) (fun K hK => ?_)
     refine goes_ Tryd.func65 (by kernel_rfl) rfl #[.agg #[.int .i64 t1254, .string t1255, .string t1256, .int .i64 t1257], .agg #[.string t1258, .slice Ao39 t1259.length co39, .slice Ao40 t1262.length co40, .int .i64 t1265, .slice Ao41 t1266.length co41, .string t1269, .int .i64 t1270]] (by rfl) rfl rfl ma ?_
     with_reducible refine (spec_Hits.calls k t1254 t1255 t1256 t1257 t1258 _ _ t1259 _ _ t1262 t1265 _ _ t1266 t1269 t1270 t1271 _ ?side1 ?side2 ?side3 ?side4 ?side5 ?side6 A21.out).mono ?_
     (case side1 => exact rc HO1261)
     (case side2 => exact (Kd.R_reads' HO1261.out).2.1)
     (case side3 => exact rc HO1264)
     (case side4 => exact (Kd.R_reads' HO1264.out).2.1)
     (case side5 => exact rc HO1268)
     (case side6 => exact (Kd.R_reads' HO1268.out).2.1)
     rintro e w42 ⟨rfl, hb⟩
     refine ⟨_, rfl, ?_⟩
     replace HO1261 := kr HO1261 hb
     replace HO1264 := kr HO1264 hb
     replace HO1268 := kr HO1268 hb
     replace BK1250 := kb BK1250 hb
     replace BK1251 := kb BK1251 hb
     replace HB := am (below_step bl hb)
     (try clear hb)
     (try clear hb2)
     (try clear hk)
     (try clear hi)
     refine hK.out _ _ ⟨bc BK1250, bc BK1250, bc BK1250, bc BK1250, bc BK1251, bc BK1251, bc BK1251, bc BK1251, bc BK1251, bc BK1251, bc BK1251⟩ (fun hHeld => ?_)
     clear hK K
     refine norm_ (a' := ?_) ?_ ?_
     rotate_left
     ·show Act.put _ (some 23) _ = _
      simp only [Act.put, List.setIfInBounds_toArray, List.set_cons_zero, List.set_cons_succ, i64_w, i32_w]
      rfl
     refine pure_ (i := 5) (N := some 6) (v := ?_) (a' := ?_) #[true, true, true, true, true, true] rfl rfl (by kernel_rfl) (fun _ _ _ h => h) (Or.inl ⟨by rfl, ?_⟩) ?_ ?_
     rotate_left
     ·intro w'
      go_simp
      with_reducible rfl
     rotate_left
     ·simp only [Act.put, List.setIfInBounds_toArray, List.set_cons_zero, List.set_cons_succ, i64_w, i32_w]
      rfl
     refine done_ (by kernel_rfl) ?_
     have hcz43_0 : w42.cell? ⟨gb1251, 0, none⟩ = some (.string a1_0) := bc BK1251
     have hcz43_1 : w42.cell? ⟨gb1251, 1, none⟩ = some (.slice A1_1 l1_1.length c1_1) := bc BK1251
     have hcz43_2 : w42.cell? ⟨gb1251, 2, none⟩ = some (.slice A1_2 l1_2.length c1_2) := bc BK1251
     have hcz43_3 : w42.cell? ⟨gb1251, 3, none⟩ = some (.int .i64 a1_3) := bc BK1251
     have hcz43_4 : w42.cell? ⟨gb1251, 4, none⟩ = some (.slice A1_4 l1_4.length c1_4) := bc BK1251
     have hcz43_5 : w42.cell? ⟨gb1251, 5, none⟩ = some (.string a1_5) := bc BK1251
     have hcz43_6 : w42.cell? ⟨gb1251, 6, none⟩ = some (.int .i64 a1_6) := bc BK1251
     have hfz43_0 := blk_frozen BK1251.out 0
     have hfz43_1 := blk_frozen BK1251.out 1
     have hfz43_2 := blk_frozen BK1251.out 2
     have hfz43_3 := blk_frozen BK1251.out 3
     have hfz43_4 := blk_frozen BK1251.out 4
     have hfz43_5 := blk_frozen BK1251.out 5
     have hfz43_6 := blk_frozen BK1251.out 6
     try go_wp2_with (first | ((with_reducible refine gate_callee (f := 61) rfl ?_); refine goesL_ (some 25) rfl rfl Tryd.func61 (by kernel_rfl) rfl #[.agg #[.string a1_0, .slice A1_1 l1_1.length c1_1, .slice A1_2 l1_2.length c1_2, .int .i64 a1_3, .slice A1_4 l1_4.length c1_4, .string a1_5, .int .i64 a1_6]] rfl ma ?_; (with_reducible refine (laws_toObj.calls k a1_0 _ _ l1_1 _ _ l1_2 a1_3 _ _ l1_4 a1_5 a1_6 t1272 t1273 t1276 t1279 t1280 t1283 t1284 _ ?side1 ?side2 ?side3 ?side4 ?side5 ?side6 A22.out).mono ?_); (case side1 => exact cb HR1_1); (case side2 => exact HC1_1.out); (case side3 => exact cb HR1_2); (case side4 => exact HC1_2.out); (case side5 => exact cb HR1_4); (case side6 => exact HC1_4.out); rintro e w44 ⟨v1274, v1277, v1281, rfl, ho0, ho1, ho2, hb⟩; refine ⟨_, rfl, ?_⟩; have HO1275 := am (Kd.R_lower (Kd.R_new' (Kd.R_new' ho0 (Kd.R_lt (ro HO1261))) (Kd.R_lt (ro HO1264))) (below_size bl)); have HO1278 := am (Kd.R_lower (Kd.R_new' (Kd.R_new' ho1 (Kd.R_lt (ro HO1261))) (Kd.R_lt (ro HO1264))) (below_size bl)); replace HO1261 := am (Kd.R_mono (Kd.R_told (Kd.R_told (Kd.R_old (ro HO1261) hb) (Kd.R_base ho0)) (Kd.R_base ho1)) (fun _ h_ => h_.1)); replace HO1264 := am (Kd.R_mono (Kd.R_told (Kd.R_told (Kd.R_old (ro HO1264) hb) (Kd.R_base ho0)) (Kd.R_base ho1)) (fun _ h_ => h_.1)); have HO1282 := am (Kd.R_lower (Kd.R_new' ho2 (Kd.R_lt (ro HO1268))) (below_size bl)); replace HO1268 := am (Kd.R_elder' (ro HO1268) (Kd.R_base ho2) hb); replace BK1250 := kb BK1250 hb; replace BK1251 := kb BK1251 hb; replace HB := am (below_step bl hb); (try clear hb); (try clear hb2); (try clear hk); (try clear hi); (try clear ho0); (try clear ho1); (try clear ho2)) | ((with_reducible refine gate_dst (N := 7) rfl ?_); refine box_event ?hg (N := 7) ?hd (cs := #[.string (⟨#[]⟩ : ByteArray), .slice none 0 0, .slice none 0 0, .int .i64 0, .slice none 0 0, .string (⟨#[]⟩ : ByteArray), .int .i64 0]) (t := 76) ?hr ?_; (case hd => rfl); (case hg => rfl); (case hr => first | (go_simp; done) | (go_simp; rfl)); intro gb1285 hg w45 hbox hb; have n0_ := am (Kd.R_below (ro HO1261) hb); have n1_ := am (Kd.R_below (ro HO1264) hb); have n2_ := am (Kd.R_below (ro HO1268) hb); have n3_ := am (Kd.R_below (ro HO1275) hb); have n4_ := am (Kd.R_below (ro HO1278) hb); have n5_ := am (Kd.R_below (ro HO1282) hb); have n6_ := kb BK1250 hb; have n7_ := kb BK1251 hb; have n8_ := am (below_step bl hb); have n9_ := am (hbox); have n10_ := am (sz hg : w.heap.size ≤ gb1285); have n11_ := am (sz hg : w.heap.size ≤ gb1285); have n12_ := am (nl hg BK1250 : gb1250 ≠ gb1285); have n13_ := am (ng hg BK1250 : gb1285 ≠ gb1250); have n14_ := am (nl hg BK1251 : gb1251 ≠ gb1285); have n15_ := am (ng hg BK1251 : gb1285 ≠ gb1251); clear HO1261; clear HO1264; clear HO1268; clear HO1275; clear HO1278; clear HO1282; clear BK1250; clear BK1251; clear HB; have HO1261 := n0_; have HO1264 := n1_; have HO1268 := n2_; have HO1275 := n3_; have HO1278 := n4_; have HO1282 := n5_; have BK1250 := n6_; have BK1251 := n7_; have HB := n8_; have BK1285 := n9_; have GW1285 := n10_; have GE1285 := n11_; have NB1250_1285 := n12_; have NB1285_1250 := n13_; have NB1251_1285 := n14_; have NB1285_1251 := n15_; clear n0_ n1_ n2_ n3_ n4_ n5_ n6_ n7_ n8_ n9_ n10_ n11_ n12_ n13_ n14_ n15_; clear hb hbox hg; have hnb46 := NB1285_1250.out; have hnc46 := NB1250_1285.out; have hnb47 := NB1285_1251.out; have hnc47 := NB1251_1285.out; have hcz48_0 : w45.cell? ⟨gb1285, 0, none⟩ = some (.string (⟨#[]⟩ : ByteArray)) := bc BK1285; have hcz48_1 : w45.cell? ⟨gb1285, 1, none⟩ = some (.slice none 0 0) := bc BK1285; have hcz48_2 : w45.cell? ⟨gb1285, 2, none⟩ = some (.slice none 0 0) := bc BK1285; have hcz48_3 : w45.cell? ⟨gb1285, 3, none⟩ = some (.int .i64 0) := bc BK1285; have hcz48_4 : w45.cell? ⟨gb1285, 4, none⟩ = some (.slice none 0 0) := bc BK1285; have hcz48_5 : w45.cell? ⟨gb1285, 5, none⟩ = some (.string (⟨#[]⟩ : ByteArray)) := bc BK1285; have hcz48_6 : w45.cell? ⟨gb1285, 6, none⟩ = some (.int .i64 0) := bc BK1285; have hfz48_0 := blk_frozen BK1285.out 0; have hfz48_1 := blk_frozen BK1285.out 1; have hfz48_2 := blk_frozen BK1285.out 2; have hfz48_3 := blk_frozen BK1285.out 3; have hfz48_4 := blk_frozen BK1285.out 4; have hfz48_5 := blk_frozen BK1285.out 5; have hfz48_6 := blk_frozen BK1285.out 6; obtain ⟨Ao49, co49, eo49⟩ := Kd.R_slice HO1275.out; subst eo49; obtain ⟨Ao50, co50, eo50⟩ := Kd.R_slice HO1278.out; subst eo50; obtain ⟨Ao51, co51, eo51⟩ := Kd.R_slice HO1282.out; subst eo51))
     have n0_ : Aside0 (Kd.R Kd.string 9 (((((((w45.setCell ⟨gb1285, 0, none⟩ (.string t1272)).setCell ⟨gb1285, 1, none⟩ (.slice Ao49 t1273.length co49)).setCell ⟨gb1285, 2, none⟩ (.slice Ao50 t1276.length co50)).setCell ⟨gb1285, 3, none⟩ (.int .i64 t1279)).setCell ⟨gb1285, 4, none⟩ (.slice Ao51 t1280.length co51)).setCell ⟨gb1285, 5, none⟩ (.string t1283)).setCell ⟨gb1285, 6, none⟩ (.int .i64 t1284)) w.heap.size (fun k_ => some k_ ≠ (.slice Ao40 t1262.length co40 : Value).ownBlock ∧ some k_ ≠ (.slice Ao49 t1273.length co49 : Value).ownBlock ∧ some k_ ≠ (.slice Ao50 t1276.length co50 : Value).ownBlock) (.slice Ao39 t1259.length co39) t1259) := ⟨by (with_reducible repeat (first | apply Kd.R_alloc | apply Kd.R_drewN | apply Kd.R_drew)); exact Kd.R_mono (Kd.R_far (p := ⟨gb1285, 6, none⟩) (Kd.R_far (p := ⟨gb1285, 5, none⟩) (Kd.R_far (p := ⟨gb1285, 4, none⟩) (Kd.R_far (p := ⟨gb1285, 3, none⟩) (Kd.R_far (p := ⟨gb1285, 2, none⟩) (Kd.R_far (p := ⟨gb1285, 1, none⟩) (Kd.R_far (p := ⟨gb1285, 0, none⟩) (Kd.R_types HO1261.out BK1285.out (by decide)) (fun _ hk => hk.2) (.string t1272)) (fun _ hk => hk.2) (.slice Ao49 t1273.length co49)) (fun _ hk => hk.2) (.slice Ao50 t1276.length co50)) (fun _ hk => hk.2) (.int .i64 t1279)) (fun _ hk => hk.2) (.slice Ao51 t1280.length co51)) (fun _ hk => hk.2) (.string t1283)) (fun _ hk => hk.2) (.int .i64 t1284)) (fun _ hk => ⟨hk.1.1.1, ⟨hk.1.1.2, hk.1.2⟩⟩)⟩
     have n1_ : Aside0 (Kd.R Kd.string 9 (((((((w45.setCell ⟨gb1285, 0, none⟩ (.string t1272)).setCell ⟨gb1285, 1, none⟩ (.slice Ao49 t1273.length co49)).setCell ⟨gb1285, 2, none⟩ (.slice Ao50 t1276.length co50)).setCell ⟨gb1285, 3, none⟩ (.int .i64 t1279)).setCell ⟨gb1285, 4, none⟩ (.slice Ao51 t1280.length co51)).setCell ⟨gb1285, 5, none⟩ (.string t1283)).setCell ⟨gb1285, 6, none⟩ (.int .i64 t1284)) w.heap.size (fun k_ => some k_ ≠ (.slice Ao39 t1259.length co39 : Value).ownBlock ∧ some k_ ≠ (.slice Ao49 t1273.length co49 : Value).ownBlock ∧ some k_ ≠ (.slice Ao50 t1276.length co50 : Value).ownBlock) (.slice Ao40 t1262.length co40) t1262) := ⟨by (with_reducible repeat (first | apply Kd.R_alloc | apply Kd.R_drewN | apply Kd.R_drew)); exact Kd.R_mono (Kd.R_far (p := ⟨gb1285, 6, none⟩) (Kd.R_far (p := ⟨gb1285, 5, none⟩) (Kd.R_far (p := ⟨gb1285, 4, none⟩) (Kd.R_far (p := ⟨gb1285, 3, none⟩) (Kd.R_far (p := ⟨gb1285, 2, none⟩) (Kd.R_far (p := ⟨gb1285, 1, none⟩) (Kd.R_far (p := ⟨gb1285, 0, none⟩) (Kd.R_types HO1264.out BK1285.out (by decide)) (fun _ hk => hk.2) (.string t1272)) (fun _ hk => hk.2) (.slice Ao49 t1273.length co49)) (fun _ hk => hk.2) (.slice Ao50 t1276.length co50)) (fun _ hk => hk.2) (.int .i64 t1279)) (fun _ hk => hk.2) (.slice Ao51 t1280.length co51)) (fun _ hk => hk.2) (.string t1283)) (fun _ hk => hk.2) (.int .i64 t1284)) (fun _ hk => ⟨hk.1.1.1, ⟨hk.1.1.2, hk.1.2⟩⟩)⟩
     have n2_ : Aside0 (Kd.R k114 114 (((((((w45.setCell ⟨gb1285, 0, none⟩ (.string t1272)).setCell ⟨gb1285, 1, none⟩ (.slice Ao49 t1273.length co49)).setCell ⟨gb1285, 2, none⟩ (.slice Ao50 t1276.length co50)).setCell ⟨gb1285, 3, none⟩ (.int .i64 t1279)).setCell ⟨gb1285, 4, none⟩ (.slice Ao51 t1280.length co51)).setCell ⟨gb1285, 5, none⟩ (.string t1283)).setCell ⟨gb1285, 6, none⟩ (.int .i64 t1284)) w.heap.size (fun k_ => some k_ ≠ (.slice Ao51 t1280.length co51 : Value).ownBlock) (.slice Ao41 t1266.length co41) t1266) := ⟨by (with_reducible repeat (first | apply Kd.R_alloc | apply Kd.R_drewN | apply Kd.R_drew)); exact Kd.R_mono (Kd.R_far (p := ⟨gb1285, 6, none⟩) (Kd.R_far (p := ⟨gb1285, 5, none⟩) (Kd.R_far (p := ⟨gb1285, 4, none⟩) (Kd.R_far (p := ⟨gb1285, 3, none⟩) (Kd.R_far (p := ⟨gb1285, 2, none⟩) (Kd.R_far (p := ⟨gb1285, 1, none⟩) (Kd.R_far (p := ⟨gb1285, 0, none⟩) (Kd.R_types HO1268.out BK1285.out (by decide)) (fun _ hk => hk.2) (.string t1272)) (fun _ hk => hk.2) (.slice Ao49 t1273.length co49)) (fun _ hk => hk.2) (.slice Ao50 t1276.length co50)) (fun _ hk => hk.2) (.int .i64 t1279)) (fun _ hk => hk.2) (.slice Ao51 t1280.length co51)) (fun _ hk => hk.2) (.string t1283)) (fun _ hk => hk.2) (.int .i64 t1284)) (fun _ hk => hk.1.2)⟩
     have n3_ : Aside0 (Kd.R Kd.string 9 (((((((w45.setCell ⟨gb1285, 0, none⟩ (.string t1272)).setCell ⟨gb1285, 1, none⟩ (.slice Ao49 t1273.length co49)).setCell ⟨gb1285, 2, none⟩ (.slice Ao50 t1276.length co50)).setCell ⟨gb1285, 3, none⟩ (.int .i64 t1279)).setCell ⟨gb1285, 4, none⟩ (.slice Ao51 t1280.length co51)).setCell ⟨gb1285, 5, none⟩ (.string t1283)).setCell ⟨gb1285, 6, none⟩ (.int .i64 t1284)) w.heap.size (fun k_ => some k_ ≠ (.slice Ao39 t1259.length co39 : Value).ownBlock ∧ some k_ ≠ (.slice Ao40 t1262.length co40 : Value).ownBlock ∧ some k_ ≠ (.slice Ao50 t1276.length co50 : Value).ownBlock) (.slice Ao49 t1273.length co49) t1273) := ⟨by (with_reducible repeat (first | apply Kd.R_alloc | apply Kd.R_drewN | apply Kd.R_drew)); exact Kd.R_mono (Kd.R_far (p := ⟨gb1285, 6, none⟩) (Kd.R_far (p := ⟨gb1285, 5, none⟩) (Kd.R_far (p := ⟨gb1285, 4, none⟩) (Kd.R_far (p := ⟨gb1285, 3, none⟩) (Kd.R_far (p := ⟨gb1285, 2, none⟩) (Kd.R_far (p := ⟨gb1285, 1, none⟩) (Kd.R_far (p := ⟨gb1285, 0, none⟩) (Kd.R_types HO1275.out BK1285.out (by decide)) (fun _ hk => hk.2) (.string t1272)) (fun _ hk => hk.2) (.slice Ao49 t1273.length co49)) (fun _ hk => hk.2) (.slice Ao50 t1276.length co50)) (fun _ hk => hk.2) (.int .i64 t1279)) (fun _ hk => hk.2) (.slice Ao51 t1280.length co51)) (fun _ hk => hk.2) (.string t1283)) (fun _ hk => hk.2) (.int .i64 t1284)) (fun _ hk => ⟨hk.1.1.2, ⟨hk.1.2, hk.1.1.1⟩⟩)⟩
     have n4_ : Aside0 (Kd.R Kd.string 9 (((((((w45.setCell ⟨gb1285, 0, none⟩ (.string t1272)).setCell ⟨gb1285, 1, none⟩ (.slice Ao49 t1273.length co49)).setCell ⟨gb1285, 2, none⟩ (.slice Ao50 t1276.length co50)).setCell ⟨gb1285, 3, none⟩ (.int .i64 t1279)).setCell ⟨gb1285, 4, none⟩ (.slice Ao51 t1280.length co51)).setCell ⟨gb1285, 5, none⟩ (.string t1283)).setCell ⟨gb1285, 6, none⟩ (.int .i64 t1284)) w.heap.size (fun k_ => some k_ ≠ (.slice Ao39 t1259.length co39 : Value).ownBlock ∧ some k_ ≠ (.slice Ao40 t1262.length co40 : Value).ownBlock ∧ some k_ ≠ (.slice Ao49 t1273.length co49 : Value).ownBlock) (.slice Ao50 t1276.length co50) t1276) := ⟨by (with_reducible repeat (first | apply Kd.R_alloc | apply Kd.R_drewN | apply Kd.R_drew)); exact Kd.R_mono (Kd.R_far (p := ⟨gb1285, 6, none⟩) (Kd.R_far (p := ⟨gb1285, 5, none⟩) (Kd.R_far (p := ⟨gb1285, 4, none⟩) (Kd.R_far (p := ⟨gb1285, 3, none⟩) (Kd.R_far (p := ⟨gb1285, 2, none⟩) (Kd.R_far (p := ⟨gb1285, 1, none⟩) (Kd.R_far (p := ⟨gb1285, 0, none⟩) (Kd.R_types HO1278.out BK1285.out (by decide)) (fun _ hk => hk.2) (.string t1272)) (fun _ hk => hk.2) (.slice Ao49 t1273.length co49)) (fun _ hk => hk.2) (.slice Ao50 t1276.length co50)) (fun _ hk => hk.2) (.int .i64 t1279)) (fun _ hk => hk.2) (.slice Ao51 t1280.length co51)) (fun _ hk => hk.2) (.string t1283)) (fun _ hk => hk.2) (.int .i64 t1284)) (fun _ hk => ⟨hk.1.1.2, ⟨hk.1.2, hk.1.1.1⟩⟩)⟩
     have n5_ : Aside0 (Kd.R k114 114 (((((((w45.setCell ⟨gb1285, 0, none⟩ (.string t1272)).setCell ⟨gb1285, 1, none⟩ (.slice Ao49 t1273.length co49)).setCell ⟨gb1285, 2, none⟩ (.slice Ao50 t1276.length co50)).setCell ⟨gb1285, 3, none⟩ (.int .i64 t1279)).setCell ⟨gb1285, 4, none⟩ (.slice Ao51 t1280.length co51)).setCell ⟨gb1285, 5, none⟩ (.string t1283)).setCell ⟨gb1285, 6, none⟩ (.int .i64 t1284)) w.heap.size (fun k_ => some k_ ≠ (.slice Ao41 t1266.length co41 : Value).ownBlock) (.slice Ao51 t1280.length co51) t1280) := ⟨by (with_reducible repeat (first | apply Kd.R_alloc | apply Kd.R_drewN | apply Kd.R_drew)); exact Kd.R_mono (Kd.R_far (p := ⟨gb1285, 6, none⟩) (Kd.R_far (p := ⟨gb1285, 5, none⟩) (Kd.R_far (p := ⟨gb1285, 4, none⟩) (Kd.R_far (p := ⟨gb1285, 3, none⟩) (Kd.R_far (p := ⟨gb1285, 2, none⟩) (Kd.R_far (p := ⟨gb1285, 1, none⟩) (Kd.R_far (p := ⟨gb1285, 0, none⟩) (Kd.R_types HO1282.out BK1285.out (by decide)) (fun _ hk => hk.2) (.string t1272)) (fun _ hk => hk.2) (.slice Ao49 t1273.length co49)) (fun _ hk => hk.2) (.slice Ao50 t1276.length co50)) (fun _ hk => hk.2) (.int .i64 t1279)) (fun _ hk => hk.2) (.slice Ao51 t1280.length co51)) (fun _ hk => hk.2) (.string t1283)) (fun _ hk => hk.2) (.int .i64 t1284)) (fun _ hk => hk.1.2)⟩
     have n6_ : Aside0 ((((((((w45.setCell ⟨gb1285, 0, none⟩ (.string t1272)).setCell ⟨gb1285, 1, none⟩ (.slice Ao49 t1273.length co49)).setCell ⟨gb1285, 2, none⟩ (.slice Ao50 t1276.length co50)).setCell ⟨gb1285, 3, none⟩ (.int .i64 t1279)).setCell ⟨gb1285, 4, none⟩ (.slice Ao51 t1280.length co51)).setCell ⟨gb1285, 5, none⟩ (.string t1283)).setCell ⟨gb1285, 6, none⟩ (.int .i64 t1284)).heap[gb1250]? = some (.cells #[.int .i64 a0_0, .string a0_1, .string a0_2, .int .i64 a0_3] 81 (0, 0))) := ⟨by (with_reducible repeat (first | refine blk_drewN ?_ _ | refine blk_drew ?_ | refine blk_alloc ?_ _)); refine blk_far ?_ NB1250_1285.out _; (with_reducible repeat (first | refine blk_drewN ?_ _ | refine blk_drew ?_ | refine blk_alloc ?_ _)); refine blk_far ?_ NB1250_1285.out _; (with_reducible repeat (first | refine blk_drewN ?_ _ | refine blk_drew ?_ | refine blk_alloc ?_ _)); refine blk_far ?_ NB1250_1285.out _; (with_reducible repeat (first | refine blk_drewN ?_ _ | refine blk_drew ?_ | refine blk_alloc ?_ _)); refine blk_far ?_ NB1250_1285.out _; (with_reducible repeat (first | refine blk_drewN ?_ _ | refine blk_drew ?_ | refine blk_alloc ?_ _)); refine blk_far ?_ NB1250_1285.out _; (with_reducible repeat (first | refine blk_drewN ?_ _ | refine blk_drew ?_ | refine blk_alloc ?_ _)); refine blk_far ?_ NB1250_1285.out _; (with_reducible repeat (first | refine blk_drewN ?_ _ | refine blk_drew ?_ | refine blk_alloc ?_ _)); refine blk_far ?_ NB1250_1285.out _; (with_reducible repeat (first | refine blk_drewN ?_ _ | refine blk_drew ?_ | refine blk_alloc ?_ _)); exact BK1250.out⟩
     have n7_ : Aside0 ((((((((w45.setCell ⟨gb1285, 0, none⟩ (.string t1272)).setCell ⟨gb1285, 1, none⟩ (.slice Ao49 t1273.length co49)).setCell ⟨gb1285, 2, none⟩ (.slice Ao50 t1276.length co50)).setCell ⟨gb1285, 3, none⟩ (.int .i64 t1279)).setCell ⟨gb1285, 4, none⟩ (.slice Ao51 t1280.length co51)).setCell ⟨gb1285, 5, none⟩ (.string t1283)).setCell ⟨gb1285, 6, none⟩ (.int .i64 t1284)).heap[gb1251]? = some (.cells #[.string a1_0, .slice A1_1 l1_1.length c1_1, .slice A1_2 l1_2.length c1_2, .int .i64 a1_3, .slice A1_4 l1_4.length c1_4, .string a1_5, .int .i64 a1_6] 72 (0, 0))) := ⟨by (with_reducible repeat (first | refine blk_drewN ?_ _ | refine blk_drew ?_ | refine blk_alloc ?_ _)); refine blk_far ?_ NB1251_1285.out _; (with_reducible repeat (first | refine blk_drewN ?_ _ | refine blk_drew ?_ | refine blk_alloc ?_ _)); refine blk_far ?_ NB1251_1285.out _; (with_reducible repeat (first | refine blk_drewN ?_ _ | refine blk_drew ?_ | refine blk_alloc ?_ _)); refine blk_far ?_ NB1251_1285.out _; (with_reducible repeat (first | refine blk_drewN ?_ _ | refine blk_drew ?_ | refine blk_alloc ?_ _)); refine blk_far ?_ NB1251_1285.out _; (with_reducible repeat (first | refine blk_drewN ?_ _ | refine blk_drew ?_ | refine blk_alloc ?_ _)); refine blk_far ?_ NB1251_1285.out _; (with_reducible repeat (first | refine blk_drewN ?_ _ | refine blk_drew ?_ | refine blk_alloc ?_ _)); refine blk_far ?_ NB1251_1285.out _; (with_reducible repeat (first | refine blk_drewN ?_ _ | refine blk_drew ?_ | refine blk_alloc ?_ _)); refine blk_far ?_ NB1251_1285.out _; (with_reducible repeat (first | refine blk_drewN ?_ _ | refine blk_drew ?_ | refine blk_alloc ?_ _)); exact BK1251.out⟩
     have n8_ : Aside0 ((((((((w45.setCell ⟨gb1285, 0, none⟩ (.string t1272)).setCell ⟨gb1285, 1, none⟩ (.slice Ao49 t1273.length co49)).setCell ⟨gb1285, 2, none⟩ (.slice Ao50 t1276.length co50)).setCell ⟨gb1285, 3, none⟩ (.int .i64 t1279)).setCell ⟨gb1285, 4, none⟩ (.slice Ao51 t1280.length co51)).setCell ⟨gb1285, 5, none⟩ (.string t1283)).setCell ⟨gb1285, 6, none⟩ (.int .i64 t1284)).heap[gb1285]? = some (.cells #[.string t1272, .slice Ao49 t1273.length co49, .slice Ao50 t1276.length co50, .int .i64 t1279, .slice Ao51 t1280.length co51, .string t1283, .int .i64 t1284] 76 (0, 0))) := ⟨by (with_reducible repeat (first | refine blk_drewN ?_ _ | refine blk_drew ?_ | refine blk_alloc ?_ _)); refine blk_put (cs := #[.string t1272, .slice Ao49 t1273.length co49, .slice Ao50 t1276.length co50, .int .i64 t1279, .slice Ao51 t1280.length co51, .string t1283, .int .i64 0]) ?_ 6 _ rfl; (with_reducible repeat (first | refine blk_drewN ?_ _ | refine blk_drew ?_ | refine blk_alloc ?_ _)); refine blk_put (cs := #[.string t1272, .slice Ao49 t1273.length co49, .slice Ao50 t1276.length co50, .int .i64 t1279, .slice Ao51 t1280.length co51, .string (⟨#[]⟩ : ByteArray), .int .i64 0]) ?_ 5 _ rfl; (with_reducible repeat (first | refine blk_drewN ?_ _ | refine blk_drew ?_ | refine blk_alloc ?_ _)); refine blk_put (cs := #[.string t1272, .slice Ao49 t1273.length co49, .slice Ao50 t1276.length co50, .int .i64 t1279, .slice none 0 0, .string (⟨#[]⟩ : ByteArray), .int .i64 0]) ?_ 4 _ rfl; (with_reducible repeat (first | refine blk_drewN ?_ _ | refine blk_drew ?_ | refine blk_alloc ?_ _)); refine blk_put (cs := #[.string t1272, .slice Ao49 t1273.length co49, .slice Ao50 t1276.length co50, .int .i64 0, .slice none 0 0, .string (⟨#[]⟩ : ByteArray), .int .i64 0]) ?_ 3 _ rfl; (with_reducible repeat (first | refine blk_drewN ?_ _ | refine blk_drew ?_ | refine blk_alloc ?_ _)); refine blk_put (cs := #[.string t1272, .slice Ao49 t1273.length co49, .slice none 0 0, .int .i64 0, .slice none 0 0, .string (⟨#[]⟩ : ByteArray), .int .i64 0]) ?_ 2 _ rfl; (with_reducible repeat (first | refine blk_drewN ?_ _ | refine blk_drew ?_ | refine blk_alloc ?_ _)); refine blk_put (cs := #[.string t1272, .slice none 0 0, .slice none 0 0, .int .i64 0, .slice none 0 0, .string (⟨#[]⟩ : ByteArray), .int .i64 0]) ?_ 1 _ rfl; (with_reducible repeat (first | refine blk_drewN ?_ _ | refine blk_drew ?_ | refine blk_alloc ?_ _)); refine blk_put (cs := #[.string (⟨#[]⟩ : ByteArray), .slice none 0 0, .slice none 0 0, .int .i64 0, .slice none 0 0, .string (⟨#[]⟩ : ByteArray), .int .i64 0]) ?_ 0 _ rfl; (with_reducible repeat (first | refine blk_drewN ?_ _ | refine blk_drew ?_ | refine blk_alloc ?_ _)); exact BK1285.out⟩
     have n9_ : Aside0 (Below w.heap.size w (((((((w45.setCell ⟨gb1285, 0, none⟩ (.string t1272)).setCell ⟨gb1285, 1, none⟩ (.slice Ao49 t1273.length co49)).setCell ⟨gb1285, 2, none⟩ (.slice Ao50 t1276.length co50)).setCell ⟨gb1285, 3, none⟩ (.int .i64 t1279)).setCell ⟨gb1285, 4, none⟩ (.slice Ao51 t1280.length co51)).setCell ⟨gb1285, 5, none⟩ (.string t1283)).setCell ⟨gb1285, 6, none⟩ (.int .i64 t1284))) := ⟨by repeat (first | (with_reducible first | exact HB.out | apply below_alloc | apply pw_below_drewN | apply below_drew1 | refine below_set ?_ GE1250.out | refine below_set ?_ GE1251.out | refine below_set ?_ GE1285.out) | exact HB.out)⟩
     (try clear HO1261)
     (try clear HO1264)
     (try clear HO1268)
     (try clear HO1275)
     (try clear HO1278)
     (try clear HO1282)
     (try clear BK1250)
     (try clear BK1251)
     (try clear BK1285)
     (try clear HB)
     generalize (((((((w45.setCell ⟨gb1285, 0, none⟩ (.string t1272)).setCell ⟨gb1285, 1, none⟩ (.slice Ao49 t1273.length co49)).setCell ⟨gb1285, 2, none⟩ (.slice Ao50 t1276.length co50)).setCell ⟨gb1285, 3, none⟩ (.int .i64 t1279)).setCell ⟨gb1285, 4, none⟩ (.slice Ao51 t1280.length co51)).setCell ⟨gb1285, 5, none⟩ (.string t1283)).setCell ⟨gb1285, 6, none⟩ (.int .i64 t1284)) = w52 at n0_ n1_ n2_ n3_ n4_ n5_ n6_ n7_ n8_ n9_ ⊢
     have HO1261 := n0_
     have HO1264 := n1_
     have HO1268 := n2_
     have HO1275 := n3_
     have HO1278 := n4_
     have HO1282 := n5_
     have BK1250 := n6_
     have BK1251 := n7_
     have BK1285 := n8_
     have HB := n9_
     clear n0_ n1_ n2_ n3_ n4_ n5_ n6_ n7_ n8_ n9_
     replace HO1261 := am (Kd.R_drew HO1261.out)
     replace HO1264 := am (Kd.R_drew HO1264.out)
     replace HO1268 := am (Kd.R_drew HO1268.out)
     replace HO1275 := am (Kd.R_drew HO1275.out)
     replace HO1278 := am (Kd.R_drew HO1278.out)
     replace HO1282 := am (Kd.R_drew HO1282.out)
     replace BK1250 := am (blk_drew BK1250.out)
     replace BK1251 := am (blk_drew BK1251.out)
     replace BK1285 := am (blk_drew BK1285.out)
     replace HB := am (below_drew1 HB.out)
     refine start_ (n := 5) (S := fun w' => w'.cell? ⟨gb1250, 0, none⟩ = some (.int .i64 a0_0) ∧ w'.cell? ⟨gb1250, 1, none⟩ = some (.string a0_1) ∧ w'.cell? ⟨gb1250, 2, none⟩ = some (.string a0_2) ∧ w'.cell? ⟨gb1250, 3, none⟩ = some (.int .i64 a0_3) ∧ w'.cell? ⟨gb1285, 0, none⟩ = some (.string t1272) ∧ w'.cell? ⟨gb1285, 1, none⟩ = some (.slice Ao49 t1273.length co49) ∧ w'.cell? ⟨gb1285, 2, none⟩ = some (.slice Ao50 t1276.length co50) ∧ w'.cell? ⟨gb1285, 3, none⟩ = some (.int .i64 t1279) ∧ w'.cell? ⟨gb1285, 4, none⟩ = some (.slice Ao51 t1280.length co51) ∧ w'.cell? ⟨gb1285, 5, none⟩ = some (.string t1283) ∧ w'.cell? ⟨gb1285, 6, none⟩ = some (.int .i64 t1284)) (ds := []) #[false, false, false, false, false] (by kernel_rfl) rfl rfl ⟨bc BK1250, bc BK1250, bc BK1250, bc BK1250, bc BK1285, bc BK1285, bc BK1285, bc BK1285, bc BK1285, bc BK1285, bc BK1285⟩ (fun hHeld => ?_)
     generalize w52.drew = w53 at HO1261 HO1264 HO1268 HO1275 HO1278 HO1282 BK1250 BK1251 BK1285 HB hHeld ⊢
     refine take_ (i := 0) (N := some 26) (v := ?_) (a' := ?_) #[true, false, false, false, false] rfl rfl (by kernel_rfl) (fun _ _ _ h => h) (Or.inl ⟨by rfl, ?_⟩) hHeld ?_ ?_
     rotate_left
     ·rintro w' ⟨s0, s1, s2, s3, s4, s5, s6, s7, s8, s9, s10⟩
      go_simp
      with_reducible rfl
     rotate_left
     ·simp only [Act.put, List.setIfInBounds_toArray, List.set_cons_zero, List.set_cons_succ, i64_w, i32_w]
      rfl
     refine take_ (i := 2) (N := some 28) (v := ?_) (a' := ?_) #[true, false, true, false, false] rfl rfl (by kernel_rfl) (fun _ _ _ h => h) (Or.inl ⟨by rfl, ?_⟩) hHeld ?_ ?_
     rotate_left
     ·rintro w' ⟨s0, s1, s2, s3, s4, s5, s6, s7, s8, s9, s10⟩
      go_simp
      with_reducible rfl
     rotate_left
     ·simp only [Act.put, List.setIfInBounds_toArray, List.set_cons_zero, List.set_cons_succ, i64_w, i32_w]
      rfl
     refine one_ (i := 1) (N := some 27) #[true, true, true, false, false] rfl rfl (by kernel_rfl) (by decide) (fun K hK => ?_)
     refine goes_ Tryd.func66 (by kernel_rfl) rfl #[.agg #[.int .i64 a0_0, .string a0_1, .string a0_2, .int .i64 a0_3]] (by rfl) rfl rfl ma ?_
     with_reducible refine (laws_toBan.calls a0_0 a0_1 a0_2 a0_3 t1286 t1287 t1288 t1289 _ A23.out).mono ?_
     rintro e w54 ⟨rfl, hb⟩
     refine ⟨_, rfl, ?_⟩
     replace HO1261 := kr HO1261 hb
     replace HO1264 := kr HO1264 hb
     replace HO1268 := kr HO1268 hb
     replace HO1275 := kr HO1275 hb
     replace HO1278 := kr HO1278 hb
     replace HO1282 := kr HO1282 hb
     replace BK1250 := kb BK1250 hb
     replace BK1251 := kb BK1251 hb
     replace BK1285 := kb BK1285 hb
     replace HB := am (below_step bl hb)
     (try clear hb)
     (try clear hb2)
     (try clear hk)
     (try clear hi)
     refine hK.out _ _ ⟨bc BK1250, bc BK1250, bc BK1250, bc BK1250, bc BK1285, bc BK1285, bc BK1285, bc BK1285, bc BK1285, bc BK1285, bc BK1285⟩ (fun hHeld => ?_)
     clear hK K
     refine norm_ (a' := ?_) ?_ ?_
     rotate_left
     ·show Act.put _ (some 27) _ = _
      simp only [Act.put, List.setIfInBounds_toArray, List.set_cons_zero, List.set_cons_succ, i64_w, i32_w]
      rfl
     refine one_ (i := 3) (N := some 29) #[true, true, true, true, false] rfl rfl (by kernel_rfl) (by decide) (fun K hK => ?_)
     refine goes_ Tryd.func67 (by kernel_rfl) rfl #[.agg #[.int .i64 t1286, .string t1287, .string t1288, .int .i64 t1289], .agg #[.string t1272, .slice Ao49 t1273.length co49, .slice Ao50 t1276.length co50, .int .i64 t1279, .slice Ao51 t1280.length co51, .string t1283, .int .i64 t1284]] (by rfl) rfl rfl ma ?_
     with_reducible refine (impl_Hits.calls k t1286 t1287 t1288 t1289 t1272 _ _ t1273 _ _ t1276 t1279 _ _ t1280 t1283 t1284 t1290 _ ?side1 ?side2 ?side3 ?side4 ?side5 ?side6 ?side7 A24.out).mono ?_
     (case side1 => exact GLOBM.below HGM.out bl)
     (case side2 => exact rc HO1275)
     (case side3 => exact (Kd.R_reads' HO1275.out).2.1)
     (case side4 => exact rc HO1278)
     (case side5 => exact (Kd.R_reads' HO1278.out).2.1)
     (case side6 => exact rc HO1282)
     (case side7 => exact (Kd.R_reads' HO1282.out).2.1)
     rintro e w55 ⟨rfl, hb⟩
     refine ⟨_, rfl, ?_⟩
     replace HO1261 := kr HO1261 hb
     replace HO1264 := kr HO1264 hb
     replace HO1268 := kr HO1268 hb
     replace HO1275 := kr HO1275 hb
     replace HO1278 := kr HO1278 hb
     replace HO1282 := kr HO1282 hb
     replace BK1250 := kb BK1250 hb
     replace BK1251 := kb BK1251 hb
     replace BK1285 := kb BK1285 hb
     replace HB := am (below_step bl hb)
     (try clear hb)
     (try clear hb2)
     (try clear hk)
     (try clear hi)
     refine hK.out _ _ ⟨bc BK1250, bc BK1250, bc BK1250, bc BK1250, bc BK1285, bc BK1285, bc BK1285, bc BK1285, bc BK1285, bc BK1285, bc BK1285⟩ (fun hHeld => ?_)
     clear hK K
     refine norm_ (a' := ?_) ?_ ?_
     rotate_left
     ·show Act.put _ (some 29) _ = _
      simp only [Act.put, List.setIfInBounds_toArray, List.set_cons_zero, List.set_cons_succ, i64_w, i32_w]
      rfl
     refine pure_ (i := 4) (N := some 8) (v := ?_) (a' := ?_) #[true, true, true, true, true] rfl rfl (by kernel_rfl) (fun _ _ _ h => h) (Or.inl ⟨by rfl, ?_⟩) ?_ ?_
     rotate_left
     ·intro w'
      go_simp
      with_reducible rfl
     rotate_left
     ·simp only [Act.put, List.setIfInBounds_toArray, List.set_cons_zero, List.set_cons_succ, i64_w, i32_w]
      rfl
     refine done_ (by kernel_rfl) ?_
     try go_wp2
     replace HO1261 := am (Kd.R_drew HO1261.out)
     replace HO1264 := am (Kd.R_drew HO1264.out)
     replace HO1268 := am (Kd.R_drew HO1268.out)
     replace HO1275 := am (Kd.R_drew HO1275.out)
     replace HO1278 := am (Kd.R_drew HO1278.out)
     replace HO1282 := am (Kd.R_drew HO1282.out)
     replace BK1250 := am (blk_drew BK1250.out)
     replace BK1251 := am (blk_drew BK1251.out)
     replace BK1285 := am (blk_drew BK1285.out)
     replace HB := am (below_drew1 HB.out)
     refine start_ (n := 5) (S := fun w' => w'.cell? ⟨gb1285, 0, none⟩ = some (.string t1272) ∧ w'.cell? ⟨gb1285, 1, none⟩ = some (.slice Ao49 t1273.length co49) ∧ w'.cell? ⟨gb1285, 2, none⟩ = some (.slice Ao50 t1276.length co50) ∧ w'.cell? ⟨gb1285, 3, none⟩ = some (.int .i64 t1279) ∧ w'.cell? ⟨gb1285, 4, none⟩ = some (.slice Ao51 t1280.length co51) ∧ w'.cell? ⟨gb1285, 5, none⟩ = some (.string t1283) ∧ w'.cell? ⟨gb1285, 6, none⟩ = some (.int .i64 t1284) ∧ w'.cell? ⟨gb1251, 0, none⟩ = some (.string a1_0) ∧ w'.cell? ⟨gb1251, 1, none⟩ = some (.slice A1_1 l1_1.length c1_1) ∧ w'.cell? ⟨gb1251, 2, none⟩ = some (.slice A1_2 l1_2.length c1_2) ∧ w'.cell? ⟨gb1251, 3, none⟩ = some (.int .i64 a1_3) ∧ w'.cell? ⟨gb1251, 4, none⟩ = some (.slice A1_4 l1_4.length c1_4) ∧ w'.cell? ⟨gb1251, 5, none⟩ = some (.string a1_5) ∧ w'.cell? ⟨gb1251, 6, none⟩ = some (.int .i64 a1_6)) (ds := []) #[false, false, false, false, false] (by kernel_rfl) rfl rfl ⟨bc BK1285, bc BK1285, bc BK1285, bc BK1285, bc BK1285, bc BK1285, bc BK1285, bc BK1251, bc BK1251, bc BK1251, bc BK1251, bc BK1251, bc BK1251, bc BK1251⟩ (fun hHeld => ?_)
     generalize w55.drew = w56 at HO1261 HO1264 HO1268 HO1275 HO1278 HO1282 BK1250 BK1251 BK1285 HB hHeld ⊢
     refine take_ (i := 0) (N := some 33) (v := ?_) (a' := ?_) #[true, false, false, false, false] rfl rfl (by kernel_rfl) (fun _ _ _ h => h) (Or.inl ⟨by rfl, ?_⟩) hHeld ?_ ?_
     rotate_left
     ·rintro w' ⟨s0, s1, s2, s3, s4, s5, s6, s7, s8, s9, s10, s11, s12, s13⟩
      go_simp
      with_reducible rfl
     rotate_left
     ·simp only [Act.put, List.setIfInBounds_toArray, List.set_cons_zero, List.set_cons_succ, i64_w, i32_w]
      rfl
     refine take_ (i := 1) (N := some 34) (v := ?_) (a' := ?_) #[true, true, false, false, false] rfl rfl (by kernel_rfl) (fun _ _ _ h => h) (Or.inl ⟨by rfl, ?_⟩) hHeld ?_ ?_
     rotate_left
     ·rintro w' ⟨s0, s1, s2, s3, s4, s5, s6, s7, s8, s9, s10, s11, s12, s13⟩
      go_simp
      with_reducible rfl
     rotate_left
     ·simp only [Act.put, List.setIfInBounds_toArray, List.set_cons_zero, List.set_cons_succ, i64_w, i32_w]
      rfl
     refine one_ (i := 2) (N := some 35) #[true, true, true, false, false] rfl rfl (by kernel_rfl) (by decide) (fun K hK => ?_)
     refine goes_ Tryd.func61 (by kernel_rfl) rfl #[.agg #[.string a1_0, .slice A1_1 l1_1.length c1_1, .slice A1_2 l1_2.length c1_2, .int .i64 a1_3, .slice A1_4 l1_4.length c1_4, .string a1_5, .int .i64 a1_6]] (by rfl) rfl rfl ma ?_
     with_reducible refine (laws_toObj.calls k a1_0 _ _ l1_1 _ _ l1_2 a1_3 _ _ l1_4 a1_5 a1_6 t1291 t1292 t1295 t1298 t1299 t1302 t1303 _ ?side1 ?side2 ?side3 ?side4 ?side5 ?side6 A26.out).mono ?_
     (case side1 => exact cb HR1_1)
     (case side2 => exact HC1_1.out)
     (case side3 => exact cb HR1_2)
     (case side4 => exact HC1_2.out)
     (case side5 => exact cb HR1_4)
     (case side6 => exact HC1_4.out)
     rintro e w57 ⟨v1293, v1296, v1300, rfl, ho0, ho1, ho2, hb⟩
     refine ⟨_, rfl, ?_⟩
     have HO1294 := am (Kd.R_lower (Kd.R_new' (Kd.R_new' (Kd.R_new' (Kd.R_new' ho0 (Kd.R_lt (ro HO1261))) (Kd.R_lt (ro HO1264))) (Kd.R_lt (ro HO1275))) (Kd.R_lt (ro HO1278))) (below_size bl))
     have HO1297 := am (Kd.R_lower (Kd.R_new' (Kd.R_new' (Kd.R_new' (Kd.R_new' ho1 (Kd.R_lt (ro HO1261))) (Kd.R_lt (ro HO1264))) (Kd.R_lt (ro HO1275))) (Kd.R_lt (ro HO1278))) (below_size bl))
     replace HO1261 := am (Kd.R_mono (Kd.R_told (Kd.R_told (Kd.R_old (ro HO1261) hb) (Kd.R_base ho0)) (Kd.R_base ho1)) (fun _ h_ => h_.1))
     replace HO1264 := am (Kd.R_mono (Kd.R_told (Kd.R_told (Kd.R_old (ro HO1264) hb) (Kd.R_base ho0)) (Kd.R_base ho1)) (fun _ h_ => h_.1))
     replace HO1275 := am (Kd.R_mono (Kd.R_told (Kd.R_told (Kd.R_old (ro HO1275) hb) (Kd.R_base ho0)) (Kd.R_base ho1)) (fun _ h_ => h_.1))
     replace HO1278 := am (Kd.R_mono (Kd.R_told (Kd.R_told (Kd.R_old (ro HO1278) hb) (Kd.R_base ho0)) (Kd.R_base ho1)) (fun _ h_ => h_.1))
     have HO1301 := am (Kd.R_lower (Kd.R_new' (Kd.R_new' ho2 (Kd.R_lt (ro HO1268))) (Kd.R_lt (ro HO1282))) (below_size bl))
     replace HO1268 := am (Kd.R_elder' (ro HO1268) (Kd.R_base ho2) hb)
     replace HO1282 := am (Kd.R_elder' (ro HO1282) (Kd.R_base ho2) hb)
     replace BK1250 := kb BK1250 hb
     replace BK1251 := kb BK1251 hb
     replace BK1285 := kb BK1285 hb
     replace HB := am (below_step bl hb)
     (try clear hb)
     (try clear hb2)
     (try clear hk)
     (try clear hi)
     (try clear ho0)
     (try clear ho1)
     (try clear ho2)
     obtain ⟨Ao58, co58, eo58⟩ := Kd.R_slice HO1294.out
     (first | subst eo58 | (injection eo58 with f1_ f2_ f3_; have f4_ := f1_.symm; have f5_ := f3_.symm; clear f1_ f2_ f3_; subst f4_; subst f5_))
     obtain ⟨Ao59, co59, eo59⟩ := Kd.R_slice HO1297.out
     (first | subst eo59 | (injection eo59 with f1_ f2_ f3_; have f4_ := f1_.symm; have f5_ := f3_.symm; clear f1_ f2_ f3_; subst f4_; subst f5_))
     obtain ⟨Ao60, co60, eo60⟩ := Kd.R_slice HO1301.out
     (first | subst eo60 | (injection eo60 with f1_ f2_ f3_; have f4_ := f1_.symm; have f5_ := f3_.symm; clear f1_ f2_ f3_; subst f4_; subst f5_))
     refine hK.out _ _ ⟨bc BK1285, bc BK1285, bc BK1285, bc BK1285, bc BK1285, bc BK1285, bc BK1285, bc BK1251, bc BK1251, bc BK1251, bc BK1251, bc BK1251, bc BK1251, bc BK1251⟩ (fun hHeld => ?_)
     clear hK K
     refine norm_ (a' := ?_) ?_ ?_
     rotate_left
     ·show Act.put _ (some 35) _ = _
      simp only [Act.put, List.setIfInBounds_toArray, List.set_cons_zero, List.set_cons_succ, i64_w, i32_w]
      rfl
     refine one_ (i := 3) (N := some 36) #[true, true, true, true, false] rfl rfl (by kernel_rfl) (by decide) (fun K hK => ?_)
     refine goes_ Tryd.func63 (by kernel_rfl) rfl #[.agg #[.string t1272, .slice Ao49 t1273.length co49, .slice Ao50 t1276.length co50, .int .i64 t1279, .slice Ao51 t1280.length co51, .string t1283, .int .i64 t1284], .agg #[.string t1291, .slice Ao58 t1292.length co58, .slice Ao59 t1295.length co59, .int .i64 t1298, .slice Ao60 t1299.length co60, .string t1302, .int .i64 t1303]] (by rfl) rfl rfl ma ?_
     with_reducible refine (laws_eqObj.calls k t1272 _ _ t1273 _ _ t1276 t1279 _ _ t1280 t1283 t1284 t1291 _ _ t1292 _ _ t1295 t1298 _ _ t1299 t1302 t1303 true _ ?side1 ?side2 ?side3 ?side4 ?side5 ?side6 ?side7 ?side8 ?side9 ?side10 ?side11 ?side12 A27.out).mono ?_
     (case side1 => exact rc HO1275)
     (case side2 => exact (Kd.R_reads' HO1275.out).2.1)
     (case side3 => exact rc HO1278)
     (case side4 => exact (Kd.R_reads' HO1278.out).2.1)
     (case side5 => exact rc HO1282)
     (case side6 => exact (Kd.R_reads' HO1282.out).2.1)
     (case side7 => exact rc HO1294)
     (case side8 => exact (Kd.R_reads' HO1294.out).2.1)
     (case side9 => exact rc HO1297)
     (case side10 => exact (Kd.R_reads' HO1297.out).2.1)
     (case side11 => exact rc HO1301)
     (case side12 => exact (Kd.R_reads' HO1301.out).2.1)
     rintro e w61 ⟨rfl, hb⟩
     refine ⟨_, rfl, ?_⟩
     replace HO1261 := kr HO1261 hb
     replace HO1264 := kr HO1264 hb
     replace HO1268 := kr HO1268 hb
     replace HO1275 := kr HO1275 hb
     replace HO1278 := kr HO1278 hb
     replace HO1282 := kr HO1282 hb
     replace HO1294 := kr HO1294 hb
     replace HO1297 := kr HO1297 hb
     replace HO1301 := kr HO1301 hb
     replace BK1250 := kb BK1250 hb
     replace BK1251 := kb BK1251 hb
     replace BK1285 := kb BK1285 hb
     replace HB := am (below_step bl hb)
     (try clear hb)
     (try clear hb2)
     (try clear hk)
     (try clear hi)
     refine hK.out _ _ ⟨bc BK1285, bc BK1285, bc BK1285, bc BK1285, bc BK1285, bc BK1285, bc BK1285, bc BK1251, bc BK1251, bc BK1251, bc BK1251, bc BK1251, bc BK1251, bc BK1251⟩ (fun hHeld => ?_)
     clear hK K
     refine norm_ (a' := ?_) ?_ ?_
     rotate_left
     ·show Act.put _ (some 36) _ = _
      simp only [Act.put, List.setIfInBounds_toArray, List.set_cons_zero, List.set_cons_succ, i64_w, i32_w]
      rfl
     refine pure_ (i := 4) (N := some 37) (v := ?_) (a' := ?_) #[true, true, true, true, true] rfl rfl (by kernel_rfl) (fun _ _ _ h => h) (Or.inl ⟨by rfl, ?_⟩) ?_ ?_
     rotate_left
     ·intro w'
      go_simp
      with_reducible rfl
     rotate_left
     ·simp only [Act.put, List.setIfInBounds_toArray, List.set_cons_zero, List.set_cons_succ, i64_w, i32_w]
      rfl
     refine done_ (by kernel_rfl) ?_
     try go_wp2
     go_ret
     exact ⟨rf, bl⟩
    ·replace c28 := Bool.eq_false_iff.mpr c28
     subst c28
     have H1 : (some false) = some r := by rw [if_neg (show ¬ (false = true) by decide)] at H; exact H
     clear H
     have H := H1
     clear H1
     exact absurd (Option.some.inj H) (by rw [ht_]; decide)

end Go.Proofs.YtiinmfjbildclaaDoor.All
