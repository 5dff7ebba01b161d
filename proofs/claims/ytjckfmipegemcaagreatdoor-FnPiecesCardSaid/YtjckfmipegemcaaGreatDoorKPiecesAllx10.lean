-- Written by a program of this session (wip/tools/hprint.py) out of the translation. Lean checks it.
import Derived.Test.YtjckfmipegemcaaGreatDoorKPiecesAllx0
import Derived.Test.YtjckfmipegemcaaGreatDoorKPiecesAllx4
namespace Go.Proofs.YtjckfmipegemcaaGreatDoor.All
open Go.RowKit Go.Proofs.YtjckfmipegemcaaGreatDoorW.PrintWords Go.Proofs.YtjckfmipegemcaaGreatDoorW.PrintLast Go.Proofs.YtjckfmipegemcaaGreatDoorW.PrintMore
attribute [local go_sem] max2_int min2_int max_two min_two max_three min_three max_four min_four  -- for this text's walks alone
set_option linter.unusedVariables false
set_option linter.unusedSimpArgs false

/-! ### slices.Grow, slices.Concat: of two rows of requests that a call has made -/
theorem R_none_any {α β : Type} {d : Kd α} {d' : Kd β} {e base : Nat} {ok : Nat → Prop} {w : World} {v : Value} (h : d.R e w base ok v []) (hs : d'.sz = d.sz) : d'.R e w base ok v [] := by
 obtain ⟨h0, inner, ho, hr⟩ := h
 exact ⟨h0, inner, by rw [hs]; exact ho, by rw [hs]; exact hr.1, fun j p hj => by simp at hj⟩
theorem R_readsM {α : Type} {d : Kd α} {e base n c : Nat} {ok : Nat → Prop} {w : World} {A : Option Addr} {xs : List α} (h : d.R e w base ok (.slice A n c) xs) : ReadsRow (d.M w base ok) d.sz w A n xs := by
 obtain ⟨A', c', he, _, hr⟩ := h.2.reads
 injection he with h1 h2 _
 subst h1 h2
 exact hr.imp_ (Below.refl _ _) (fun _ _ hp => d.M_mono (fun _ hk => hk.1) hp)
set_option maxHeartbeats 4000000 in
set_option maxRecDepth 100000 in
theorem growReq (n : Nat) (w : World) (hn : n < 1099511627776) :
  Calls Tryz.prog 67 #[.slice none 0 0, .int .i64 n] w fun e w' => ∃ v : Value, e = .returned v ∧ (∀ (α : Type) (d : Kd α), d.sz = 4 → d.R 40 w' w.heap.size (fun k_ => w.heap.size ≤ k_) v []) ∧ Below w.heap.size w w' := by
 have HB := am (Below.refl w.heap.size w)
 have hn1 : (n : Int) ≤ 1099511627776 := by omega
 have c0 : decide ((n : Int) < 0) = false := decide_eq_false (by omega)
 by_cases h0 : n = 0
 ·subst h0
  go_enter Tryz.func67, Tryz.ntmps67
  go_wp2
  go_ret
  exact ⟨_, rfl, fun _ d _ => Kd.R_nil _ _ _ _ _, HB.out⟩
 ·have c1 : decide (0 < n) = true := decide_eq_true (by omega)
  have HN := am hn
  clear hn h0
  go_enter Tryz.func67, Tryz.ntmps67
  go_wp2_with (first | ((with_reducible refine gate_builtin (b := .append) (xs := #[.tmp 20, .tmp 21]) rfl ?_); at_builtin; refine Kd.R_append_zeros (Kd.raw 4) (w0 := w) w.heap.size rfl (.tmp 20) (.tmp 21) 28 3 40 (.agg #[(.int .i64 0), (.string ⟨#[]⟩), (.slice none 0 0), (.string ⟨#[]⟩)]) 64 rfl Tryz.underlying28 (k := .i64) Tryz.underlying3 info40 rfl (by decide) (by omega) (.slice none 0 0) [] [.int .i64 0, .string ⟨#[]⟩, .slice none 0 0, .string ⟨#[]⟩] n (fun k_ => w.heap.size ≤ k_) rfl rfl ?hz (fun _ h => h) (Kd.R_nil _ _ _ _ _) (by omega) HB.out (Nat.le_refl _) ?hl ?_; (case hz => exact ⟨rfl, rfl, by decide⟩); (case hl => have := HN.out; simp; omega); intro v1 w1 ho hb hg hat; obtain ⟨A, c, rfl⟩ := Kd.R_slice ho; have HO := am (Kd.R_take ho (Nat.zero_le _)); have HB1 := am hb; clear ho hb hg hat HB))
  go_ret
  exact ⟨_, rfl, fun _ d hd => R_none_any (show (Kd.raw 4).R _ _ _ _ _ [] from HO.out) hd, HB1.out⟩
set_option maxHeartbeats 8000000 in
set_option maxRecDepth 100000 in
theorem concat2 {α : Type} (d : Kd α) (hd : d.sz = 4) (base : Nat) (ad : Addr) (v1 v2 : Value) (xs ys : List α) (ok1 ok2 : Nat → Prop) (w : World) (hc0 : w.cell? (ad.add 0) = some v1) (hc1 : w.cell? (ad.add 1) = some v2)
  (h1 : d.R 40 w base ok1 v1 xs) (h2 : d.R 40 w base ok2 v2 ys) (hbase : base ≤ w.heap.size) (hl : xs.length + ys.length < 1099511627776) :
  Calls Tryz.prog 41 #[.slice (some ad) 2 2] w fun e w' => ∃ v : Value, e = .returned v ∧ d.R 40 w' base (fun k_ => ok1 k_ ∨ ok2 k_ ∨ w.heap.size ≤ k_) v (xs ++ ys) ∧ Below w.heap.size w w' := by
 obtain ⟨rs, hrs⟩ : ∃ rs : List (Value × List α × (Nat → Prop)), rs = [(v1, xs, ok1), (v2, ys, ok2)] := ⟨_, rfl⟩
 have hrl : rs.length = 2 := by rw [hrs]; rfl
 have hcell : ∀ (n : Nat) (h : n < rs.length), w.cell? (ad.add n) = some rs[n].1 := by
  subst hrs
  intro n h
  match n, h with
  | 0, _ => exact hc0
  | 1, _ => exact hc1
 have hR : ∀ (n : Nat) (h : n < rs.length), d.R 40 w base rs[n].2.2 rs[n].1 rs[n].2.1 := by
  subst hrs
  intro n h
  match n, h with
  | 0, _ => exact h1
  | 1, _ => exact h2
 have hok : ∀ (n : Nat) (h : n < rs.length) k, rs[n].2.2 k → ok1 k ∨ ok2 k := by
  subst hrs
  intro n h k hk
  match n, h, hk with
  | 0, _, hk => exact .inl hk
  | 1, _, hk => exact .inr hk
 obtain ⟨tot, htot⟩ : ∃ tot : Nat → Nat, tot = fun n => ((rs.take n).map (fun r => r.2.1.length)).sum := ⟨_, rfl⟩
 have ht0 : tot 0 = 0 := by rw [htot]; rfl
 have hts : ∀ (n : Nat) (h : n < rs.length), tot (n + 1) = tot n + rs[n].2.1.length := by
  intro n h
  rw [htot]
  simp only [List.take_succ_eq_append_getElem h, List.map_append, List.sum_append, List.map_cons, List.map_nil, List.sum_cons, List.sum_nil, Nat.add_zero]
 have htl : ∀ n, n ≤ 2 → tot n ≤ xs.length + ys.length := by
  subst hrs
  intro n h
  rw [htot]
  match n, h with
  | 0, _ => exact Nat.zero_le _
  | 1, _ => simp
  | 2, _ => simp
 have ht2 : tot 2 = xs.length + ys.length := by rw [htot, hrs]; simp
 have hcat : ((rs.take 2).map (fun r => r.2.1)).flatten = xs ++ ys := by rw [hrs]; simp
 have HCELL := am hcell
 have HR := am hR
 have HOK := am hok
 have HT0 := am ht0
 have HTS := am hts
 have HTL := am htl
 have HT2 := am ht2
 have HLF : Aside0 (∀ n, (((rs.take n).map (fun r => r.2.1)).flatten).length = tot n) := ⟨fun n => by rw [htot, List.length_flatten, List.map_map]; rfl⟩
 have HCAT := am hcat
 have HRL := am hrl
 have HL := am hl
 have HBASE := am hbase
 clear hcell hR hok ht0 hts htl ht2 hcat hrl hl hbase hc0 hc1 h1 h2 hrs htot
 go_enter Tryz.func41, Tryz.ntmps41
 go_wp2
 go_loopw [3, 11] (fun v3 v11 wr => ∃ n : Nat, n ≤ 2 ∧ v3 = .int .i64 (tot n) ∧ v11 = .int .i64 n ∧ wr = w) (fun _ v11 _ => 2 - (intOf v11).toNat)
 case atStart => exact ⟨0, Nat.zero_le _, by rw [HT0.out]; rfl, rfl, rfl⟩
 case round =>
  obtain ⟨n, hn, rfl, rfl, hw⟩ := hrel
  subst wr
  by_cases hlt : n < 2
  ·have hx0 := HCELL.out n (by rw [HRL.out]; exact hlt)
   have hv := HR.out n (by rw [HRL.out]; exact hlt)
   have hs := HTS.out n (by rw [HRL.out]; exact hlt)
   have hle := HTL.out (n + 1) (by omega)
   obtain ⟨A, c, e⟩ := Kd.R_slice hv
   rw [e] at hx0
   have c0 : decide (n < 2) = true := decide_eq_true hlt
   obtain ⟨m, hm⟩ : ∃ m, m = (rs[n]'(by rw [HRL.out]; exact hlt)).2.1.length := ⟨_, rfl⟩
   rw [← hm] at hx0 hs
   obtain ⟨t, ht⟩ : ∃ t, t = tot n := ⟨_, rfl⟩
   rw [← ht] at hs ⊢
   have hL := HL.out
   have hn1 : (n : Int) < 2 := by omega
   have ht1 : (t : Int) + (m : Int) ≤ 1099511627776 := by omega
   clear hv hle ht hm e c0
   go_wp2
   go_roundw
   case rel => exact ⟨n + 1, by omega, by rw [hs]; go_num, by go_num, by first | rfl | trivial⟩
   case measure => simp [intOf]; omega
  ·have hn2 : n = 2 := by omega
   subst hn2
   obtain ⟨T, hT⟩ : ∃ T, T = tot 2 := ⟨_, rfl⟩
   rw [← hT]
   have HTT := am (show T < 1099511627776 by rw [hT, HT2.out]; exact HL.out)
   clear hT hn hlt
   go_wp2_with (first | (go_at_call 67; refine (growReq T w HTT.out).mono ?_; rintro e w2 ⟨v, rfl, hgr, hb⟩; have HG0 := am (Kd.R_mono (ok' := fun k_ => ok1 k_ ∨ ok2 k_ ∨ w.heap.size ≤ k_) (Kd.R_lower (hgr α d hd) HBASE.out) (fun _ h => .inr (.inr h))); have HOW := am (show ∀ k_, v.ownBlock = some k_ → w.heap.size ≤ k_ from fun k_ h_ => (hgr α d hd).1 k_ h_); have HB := am hb; clear hgr hb))
   go_loopw [6, 27] (fun v6 v27 wr => ∃ n : Nat, n ≤ 2 ∧ v27 = .int .i64 n ∧ Aside0 (d.R 40 wr base (fun k_ => ok1 k_ ∨ ok2 k_ ∨ w.heap.size ≤ k_) v6 (((rs.take n).map (fun r => r.2.1)).flatten)) ∧ Aside0 (∀ k_, v6.ownBlock = some k_ → w.heap.size ≤ k_) ∧ Aside0 (Below w.heap.size w wr)) (fun _ v27 _ => 2 - (intOf v27).toNat)
   case atStart => exact ⟨0, Nat.zero_le _, rfl, HG0, HOW, HB⟩
   case round =>
    clear HG0 HOW HB
    obtain ⟨n, hn, rfl, HO, HOW, HB⟩ := hrel
    by_cases hlt : n < 2
    ·have hlt2 : n < rs.length := by rw [HRL.out]; exact hlt
     have hx := HCELL.out n hlt2
     have hv := HR.out n hlt2
     have hokn := HOK.out n hlt2
     have hs := HTS.out n hlt2
     have hle := HTL.out (n + 1) (by omega)
     have hfl : ((rs.take (n + 1)).map (fun r => r.2.1)).flatten = ((rs.take n).map (fun r => r.2.1)).flatten ++ rs[n].2.1 := by
      rw [List.take_succ_eq_append_getElem hlt2, List.map_append, List.flatten_append]; simp only [List.map_cons, List.map_nil, List.flatten_cons, List.flatten_nil, List.append_nil]
     have hln : (((rs.take n).map (fun r => r.2.1)).flatten).length + rs[n].2.1.length ≤ 1099511627776 := by rw [HLF.out, ← hs]; have := HL.out; omega
     obtain ⟨A, c, e⟩ := Kd.R_slice hv
     rw [e] at hx hv
     replace hx := hcw hx
     obtain ⟨zs, hzs⟩ : ∃ zs, zs = rs[n].2.1 := ⟨_, rfl⟩
     obtain ⟨okn, hoe⟩ : ∃ o, o = rs[n].2.2 := ⟨_, rfl⟩
     rw [← hzs] at hx hv hln hfl
     rw [← hoe] at hv hokn
     have HV := am (Kd.R_below (Kd.R_mono (ok' := fun k_ => (ok1 k_ ∨ ok2 k_) ∧ k_ < w.heap.size) (Kd.R_bound hv) (fun k_ hk => ⟨hokn k_ hk.1, hk.2.2.1⟩)) HB.out)
     have HFL := am hfl
     have HLN := am hln
     clear hv hokn hs hle hfl hln e hzs hoe hlt2 hn
     go_wp2_with (first | ((with_reducible refine gate_builtin (b := .append) (xs := #[.tmp 31, .tmp 32]) rfl ?_); at_builtin; refine Kd.R_append_rows d (Rr := fun x cs => d.M wr base (fun k_ => (ok1 k_ ∨ ok2 k_) ∧ k_ < w.heap.size) x cs) (w0 := wr) base rfl (.tmp 31) (.tmp 32) 28 40 (.agg #[(.int .i64 0), (.string ⟨#[]⟩), (.slice none 0 0), (.string ⟨#[]⟩)]) 64 rfl Tryz.underlying28 (by rw [hd]; exact info40) (by rw [hd]; rfl) (by omega) (by omega) u6 _ zs A zs.length c (fun k_ => ok1 k_ ∨ ok2 k_ ∨ w.heap.size ≤ k_) (fun k_ => (ok1 k_ ∨ ok2 k_) ∧ k_ < w.heap.size) rfl rfl HO.out ?hR (fun _ _ h => h) ?hk (fun k_ hk_ => .inr (.inr (Nat.le_trans HB.out.size hk_))) (Below.refl _ _) (Nat.le_trans HBASE.out HB.out.size) ?hl ?_; (case hR => exact R_readsM HV.out); (case hk => exact fun k_ hk_ => ⟨hk_.1.elim .inl (fun h => .inr (.inl h)), fun e_ => by have h1_ := HOW.out k_ e_.symm; have h2_ := hk_.2; omega⟩); (case hl => have := HLN.out; omega); intro v8 w8 ho hb hg hat; rw [← HFL.out] at ho; have n0_ := am ho; have n1_ := am (Below.grown HB.out hg HB.out.size HOW.out); have n2_ := am (show ∀ k_, v8.ownBlock = some k_ → w.heap.size ≤ k_ from fun k_ h_ => by rcases hat with hat | ⟨b_, hb1, hb2⟩; exact HOW.out k_ (hat ▸ h_); (rw [h_] at hb1; injection hb1 with hb1; have := HB.out.size; omega)); clear ho hb hg hat HO HB HOW; have HO := n0_; have HB := n1_; have HOW := n2_; clear n0_ n1_ n2_))
     go_roundw
     case rel => exact ⟨n + 1, by omega, by go_num, HO, HOW, HB⟩
     case measure => simp [intOf]; omega
    ·have hn2 : n = 2 := by omega
     subst hn2
     go_wp2
     go_ret
     exact ⟨_, rfl, by rw [← HCAT.out]; exact HO.out, HB.out⟩
theorem R_tag_shift {α : Type} {d : Kd α} {e base : Nat} {ok : Nat → Prop} {w : World} {v : Value} {f f' : Nat → Nat} {ys : List α} (m : Nat) (h : (Kd.tag f d).R e w base ok v ys.zipIdx) (hf : ∀ k, ok k → f' k = m + f k) : (Kd.tag f' d).R e w base ok v (ys.zipIdx m) := by
 obtain ⟨h0, inner, ho, hr⟩ := h
 rw [List.length_zipIdx] at ho
 refine ⟨h0, inner, by rw [List.length_zipIdx]; exact ho, by have := hr.1; rw [List.length_zipIdx] at this; rw [List.length_zipIdx]; exact this, fun j p hj => ?_⟩
 rw [List.getElem?_zipIdx] at hj
 obtain ⟨y, hy, rfl⟩ := Option.map_eq_some_iff.1 hj
 refine d.M_mono (fun k hk => ⟨hk.1, ?_⟩) (hr.2 j (y, j) (by rw [List.getElem?_zipIdx, hy, Nat.zero_add]; rfl))
 show f' k = m + j
 rw [hf k hk.1.1, show f k = j from hk.2]
theorem alloc_blk (w : World) (cs : Array Value) (t : TypeId) : (w.alloc (.cells cs t)).heap[w.heap.size]? = some (.cells cs t (0, 0)) := by simpa using heap_alloc_new w _
open Classical in
theorem concatS (base : Nat) (ad : Addr) (v1 v2 : Value) (xs ys : List S40) (ok1 ok2 : Nat → Prop) (w : World) (hc0 : w.cell? (ad.add 0) = some v1) (hc1 : w.cell? (ad.add 1) = some v2)
  (h1 : Kd.S k40 40 w base ok1 v1 xs) (h2 : Kd.S k40 40 w base ok2 v2 ys) (hap : ∀ k_, ok1 k_ → ¬ ok2 k_) (hbase : base ≤ w.heap.size) (hl : xs.length + ys.length < 1099511627776) :
  Calls Tryz.prog 41 #[.slice (some ad) 2 2] w fun e w' => ∃ v : Value, e = .returned v ∧ Kd.S k40 40 w' base (fun _ => True) v (xs ++ ys) ∧ Below w.heap.size w w' := by
 obtain ⟨f1, h1⟩ := h1
 obtain ⟨f2, h2⟩ := h2
 obtain ⟨f, hf⟩ : ∃ f : Nat → Nat, f = fun k_ => if ok1 k_ then f1 k_ else xs.length + f2 k_ := ⟨_, rfl⟩
 have g1 : (Kd.tag f k40).R 40 w base ok1 v1 xs.zipIdx := Kd.R_tag h1 (fun k_ hk _ => by rw [hf]; exact if_pos hk)
 have g2 : (Kd.tag f k40).R 40 w base ok2 v2 (ys.zipIdx xs.length) := R_tag_shift xs.length h2 (fun k_ hk => by rw [hf]; exact if_neg (fun h => hap k_ h hk))
 refine (concat2 (Kd.tag f k40) rfl base ad v1 v2 _ _ ok1 ok2 w hc0 hc1 g1 g2 hbase (by rw [List.length_zipIdx, List.length_zipIdx]; exact hl)).mono ?_
 rintro e w' ⟨v, rfl, hr, hb⟩
 rw [show xs.zipIdx ++ ys.zipIdx xs.length = (xs ++ ys).zipIdx by rw [List.zipIdx_append, Nat.zero_add]] at hr
 exact ⟨v, rfl, ⟨f, Kd.R_mono hr (fun _ _ => trivial)⟩, hb⟩

/-! ### impl.FeedAll: piece behind piece -/
def feedGo (k : Nat) : List ByteArray → ByteArray → Bool → List S40 → Option (ByteArray × Bool × List S40)
 | [], x0, x1, xs => some (x0, x1, xs)
 | p :: r, x0, x1, xs => (impl_Feed.f k x0 x1 p).bind fun t => if xs.length + t.2.2.length < 1099511627776 then feedGo k r t.1 t.2.1 (xs ++ t.2.2) else none
def impl_FeedAll.f (k : Nat) (a0_0 : ByteArray) (a0_1 : Bool) (l1 : List ByteArray) : Option (ByteArray × Bool × List S40) := if l1.length < 1099511627776 then feedGo k l1 a0_0 a0_1 [] else none
set_option maxHeartbeats 8000000 in
set_option maxRecDepth 100000 in
theorem impl_FeedAll.calls (k : Nat) (a0_0 : ByteArray) (a0_1 : Bool) (A1 : Option Addr) (c1 : Nat) (l1 : List ByteArray) (r1 : ByteArray) (r2 : Bool) (r3 : List S40) (w : World) (hGE : GLOBE w) (hGM : GLOBM w) (hGT : GLOBT w) (hr1 : Kd.C Kd.string w A1 l1.length l1) (hc1 : l1.length ≤ c1) (h : impl_FeedAll.f k a0_0 a0_1 l1 = some (r1, r2, r3)) :
  Calls Tryz.prog 12 #[.agg #[.string a0_0, .bool a0_1], .slice A1 l1.length c1] w fun e w' => ∃ v2_ : Value, e = .returned (.tuple #[.agg #[.string r1, .bool r2], v2_]) ∧ Kd.S k40 40 w' w.heap.size (fun _ => True) v2_ r3 ∧ Below w.heap.size w w' := by
 have hu25 := Tryz.underlying25
 unfold impl_FeedAll.f at h
 split at h
 case isFalse => cases h
 rename_i hlen
 have HLEN := am hlen
 have HGE := am hGE
 have HGM := am hGM
 have HGT := am hGT
 have HR1 := am hr1
 have H' := am h
 clear hGE hGM hGT h hr1 hc1 hlen
 have HB := am (Below.refl w.heap.size w)
 go_enter Tryz.func12, Tryz.ntmps12
 go_wp2_with ((with_reducible refine gw ?_); first | (refine bx 2 #[.string a0_0, .bool a0_1] 25 ?_; intro gs hgs w2 hbs hb; have HBS := am hbs; have GS := am ((by rw [hgs]; exact (below_size bl) : w.heap.size ≤ gs)); replace HB := am (below_step bl hb); clear hb hbs hgs) | (refine bx 4 #[.string (⟨#[]⟩ : ByteArray), .bool false] 25 ?_; intro gr hgr w3 hbr hb; have NE := am ((by rw [hgr]; exact Nat.ne_of_lt (blk_lt (g := gs) (o := .cells #[.string a0_0, .bool a0_1] 25 (0, 0)) (bk HBS)) : gs ≠ gr)); replace HBS := kb HBS hb; have HBR := am hbr; have GR := am ((by rw [hgr]; exact (below_size bl) : w.heap.size ≤ gr)); replace HB := am (below_step bl hb); clear hb hbr hgr))
 have ne1 := NE.out
 have ne2 := Ne.symm NE.out
 have NE2 := am ne2
 (try simp only [Act.put, List.setIfInBounds_toArray, List.set_cons_zero, List.set_cons_succ])
 go_loopw [6, 13] (fun v6 v13 wr => ∃ (n : Nat) (x0 : ByteArray) (x1 : Bool) (xs : List S40), n ≤ l1.length ∧ v13 = .int .i64 n ∧ Aside0 (feedGo k (l1.drop n) x0 x1 xs = some (r1, r2, r3)) ∧ Aside0 (Kd.S k40 40 wr w.heap.size (fun _ => True) v6 xs) ∧ Aside0 (wr.heap[gs]? = some (.cells #[.string x0, .bool x1] 25 (0, 0))) ∧ Aside0 (wr.heap[gr]? = some (.cells #[.string (⟨#[]⟩ : ByteArray), .bool false] 25 (0, 0))) ∧ Aside0 (Below w.heap.size w wr)) (fun _ v13 _ => l1.length - (intOf v13).toNat)
 case atStart => exact ⟨0, a0_0, a0_1, [], Nat.zero_le _, rfl, H', ⟨Kd.S_nil _ _ _ _ _⟩, HBS, HBR, HB⟩
 case round =>
  clear H' HBS HBR HB
  obtain ⟨n, x0, x1, xs, hn, rfl, HA, HO, HBS, HBR, HB⟩ := hrel
  obtain ⟨Ao, co, eo⟩ := Kd.S_slice HO.out
  subst eo
  have hn2 : (n : Int) ≤ 1099511627776 := by have := HLEN.out; omega
  have hl2 : (l1.length : Int) ≤ 1099511627776 := by have := HLEN.out; omega
  by_cases hlt : n < l1.length
  ·obtain ⟨ad, e1, hx0⟩ := Kd.at_string HR1.out (n : Int) (by omega) (by omega)
   cases e1
   have hrd : rdOf ByteArray.empty l1 (n : Int) = l1[n] := by simp [rdOf, List.getD, hlt]
   rw [hrd, Int.toNat_natCast] at hx0
   replace hx0 := hcw hx0
   have hF := HA.out
   rw [List.drop_eq_getElem_cons hlt, feedGo] at hF
   obtain ⟨p, hp⟩ : ∃ p, p = l1[n] := ⟨_, rfl⟩
   rw [← hp] at hx0 hF
   obtain ⟨⟨t1, t2, t3⟩, hfeed, hF⟩ := Option.bind_eq_some_iff.mp hF
   dsimp only at hF
   by_cases hsum : xs.length + t3.length < 1099511627776
   case neg => rw [if_neg hsum] at hF; cases hF
   rw [if_pos hsum] at hF
   have HF2 := am hF
   have HFEED := am hfeed
   have HSUM := am hsum
   clear hrd hp hF hfeed hsum HA hn
   have hs0 : wr.cell? ⟨gs, 0, none⟩ = some (.string x0) := (blk_cell HBS.out 0).trans rfl
   have hs1 : wr.cell? ⟨gs, 1, none⟩ = some (.bool x1) := (blk_cell HBS.out 1).trans rfl
   go_wp2_with (first | ((with_reducible refine gw ?_); refine gl 20 Tryz.func9 #[.agg #[.string x0, .bool x1], .string p] ?_; (with_reducible refine (impl_Feed.calls k x0 x1 p t1 t2 t3 _ (GLOBE.below HGE.out HB.out) (GLOBM.below HGM.out HB.out) (GLOBT.below HGT.out HB.out) HFEED.out).mono ?_); rintro e w5 ⟨v5, rfl, ho0, hb⟩; refine ⟨_, rfl, ?_⟩; have n0_ := am (Kd.S_mono (ok' := fun k_ => k_ < wr.heap.size) (Kd.S_below (Kd.S_bound HO.out) hb) (fun _ hk => hk.2.2.1)); have n1_ := am (Kd.S_lower (Kd.S_mono (ok' := fun k_ => wr.heap.size ≤ k_) (Kd.S_bound ho0) (fun _ hk => hk.2.1)) HB.out.size); have n2_ := kb HBS hb; have n3_ := kb HBR hb; have n4_ := am (below_step HB.out hb); have HSZ := am hb.size; clear HO HBS HBR HB ho0 hb hs0 hs1 hx0; have HO := n0_; have HT := n1_; have HBS := n2_; have HBR := n3_; have HB := n4_; clear n0_ n1_ n2_ n3_ n4_; obtain ⟨At, ct, et⟩ := Kd.S_slice HT.out; subst et) | ((with_reducible refine gw ?_); refine bx 9 #[.string (⟨#[]⟩ : ByteArray), .bool false] 25 ?_; intro gn hgn w6 hbn hb; have n0_ := am (Kd.S_below HO.out hb); have n1_ := am (Kd.S_below (Kd.S_elderB HT.out gn (Nat.le_of_eq hgn.symm)) hb); have n2_ := kb HBS hb; have n3_ := kb HBR hb; have n4_ := am (below_step HB.out hb); have n5_ : Aside0 (gn ≠ gs) := ⟨by rw [hgn]; exact Nat.ne_of_gt (blk_lt HBS.out)⟩; have n6_ : Aside0 (gn ≠ gr) := ⟨by rw [hgn]; exact Nat.ne_of_gt (blk_lt HBR.out)⟩; have n7_ : Aside0 (wr.heap.size ≤ gn) := ⟨by rw [hgn]; exact HSZ.out⟩; have n8_ : Aside0 (w.heap.size ≤ gn) := ⟨by rw [hgn]; exact HB.out.size⟩; have BK := am hbn; clear HO HT HBS HBR HB hb hbn hgn; have HO := n0_; have HT := n1_; have HBS := n2_; have HBR := n3_; have HB := n4_; have NS := n5_; have NR := n6_; have GN2 := n7_; have GN := n8_; clear n0_ n1_ n2_ n3_ n4_ n5_ n6_ n7_ n8_; have hfz0 := blk_frozen BK.out 0; have hfz1 := blk_frozen BK.out 1; have hcz0 : w6.cell? ⟨gn, 0, none⟩ = some (.string (⟨#[]⟩ : ByteArray)) := (blk_cell BK.out 0).trans rfl; have hcz1 : w6.cell? ⟨gn, 1, none⟩ = some (.bool false) := (blk_cell BK.out 1).trans rfl) | ((with_reducible refine gate_store (t := 25) (p := 9) rfl ?_); refine store_event (t := 25) (p := 9) (v := ?vo_w7) (w1 := (w6.setCell ⟨gn, 0, none⟩ (.string t1)).setCell ⟨gn, 1, none⟩ (.bool t2)) ?hg ?ho ?hn ?hr ?_; (case ho => rfl); (case hg => rfl); (case hn => rfl); (case hr => first | (go_simp; done) | (go_simp; rfl)); intro w7 hw; have n0_ : Aside0 (Kd.S k40 40 w7 w.heap.size (fun k_ => k_ < wr.heap.size ∧ k_ ≠ gs) (.slice Ao xs.length co) xs) := ⟨by rw [hw]; have hne : ∀ k_, (k_ < wr.heap.size ∧ k_ ≠ gs) → k_ ≠ gn := fun k_ hk e_ => (by have h1_ := hk.1; have h2_ := GN2.out; omega); exact Kd.S_far (p := ⟨gn, 1, none⟩) (Kd.S_far (p := ⟨gn, 0, none⟩) (Kd.S_types HO.out HBS.out (by decide)) hne _) hne _⟩; have n1_ : Aside0 (Kd.S k40 40 w7 w.heap.size (fun k_ => (wr.heap.size ≤ k_ ∧ k_ ≠ gn) ∧ k_ ≠ gs) (.slice At t3.length ct) t3) := ⟨by rw [hw]; exact Kd.S_far (p := ⟨gn, 1, none⟩) (Kd.S_far (p := ⟨gn, 0, none⟩) (Kd.S_types HT.out HBS.out (by decide)) (fun _ hk => hk.1.2) _) (fun _ hk => hk.1.2) _⟩; have n2_ : Aside0 (w7.heap[gs]? = some (.cells #[.string x0, .bool x1] 25 (0, 0))) := ⟨by rw [hw]; exact blk_far (blk_far HBS.out (p := ⟨gn, 0, none⟩) (Ne.symm NS.out) _) (p := ⟨gn, 1, none⟩) (Ne.symm NS.out) _⟩; have n3_ : Aside0 (w7.heap[gr]? = some (.cells #[.string (⟨#[]⟩ : ByteArray), .bool false] 25 (0, 0))) := ⟨by rw [hw]; exact blk_far (blk_far HBR.out (p := ⟨gn, 0, none⟩) (Ne.symm NR.out) _) (p := ⟨gn, 1, none⟩) (Ne.symm NR.out) _⟩; have n4_ : Aside0 (Below w.heap.size w w7) := ⟨by rw [hw]; exact below_set (below_set HB.out GN.out) GN.out⟩; have n5_ : Aside0 (w7.heap[gn]? = some (.cells #[.string t1, .bool t2] 25 (0, 0))) := ⟨by rw [hw]; refine blk_put (cs := #[.string t1, .bool false]) ?_ 1 _ rfl; refine blk_put (cs := #[.string (⟨#[]⟩ : ByteArray), .bool false]) ?_ 0 _ rfl; exact BK.out⟩; clear hw hcz0 hcz1 hfz0 hfz1 HO HT HBS HBR HB BK; have HO := n0_; have HT := n1_; have HBS := n2_; have HBR := n3_; have HB := n4_; have BK := n5_; clear n0_ n1_ n2_ n3_ n4_ n5_; have hcz0 : w7.cell? ⟨gn, 0, none⟩ = some (.string t1) := (blk_cell BK.out 0).trans rfl; have hcz1 : w7.cell? ⟨gn, 1, none⟩ = some (.bool t2) := (blk_cell BK.out 1).trans rfl; have hfz0 := blk_frozen HBS.out 0; have hfz1 := blk_frozen HBS.out 1; have hsz0 : w7.cell? ⟨gs, 0, none⟩ = some (.string x0) := (blk_cell HBS.out 0).trans rfl; have hsz1 : w7.cell? ⟨gs, 1, none⟩ = some (.bool x1) := (blk_cell HBS.out 1).trans rfl) | ((with_reducible refine gate_store (t := 25) (p := 2) rfl ?_); refine store_event (t := 25) (p := 2) (v := ?vo_w8) (w1 := (w7.setCell ⟨gs, 0, none⟩ (.string t1)).setCell ⟨gs, 1, none⟩ (.bool t2)) ?hg ?ho ?hn ?hr ?_; (case ho => rfl); (case hg => rfl); (case hn => rfl); (case hr => first | (go_simp; done) | (go_simp; rfl)); intro w8 hw; have n0_ : Aside0 (Kd.S k40 40 w8 w.heap.size (fun k_ => k_ < wr.heap.size) (.slice Ao xs.length co) xs) := ⟨by rw [hw]; exact Kd.S_mono (Kd.S_far (p := ⟨gs, 1, none⟩) (Kd.S_far (p := ⟨gs, 0, none⟩) HO.out (fun _ hk => hk.2) _) (fun _ hk => hk.2) _) (fun _ hk => hk.1)⟩; have n1_ : Aside0 (Kd.S k40 40 w8 w.heap.size (fun k_ => wr.heap.size ≤ k_) (.slice At t3.length ct) t3) := ⟨by rw [hw]; exact Kd.S_mono (Kd.S_far (p := ⟨gs, 1, none⟩) (Kd.S_far (p := ⟨gs, 0, none⟩) HT.out (fun _ hk => hk.2) _) (fun _ hk => hk.2) _) (fun _ hk => hk.1.1)⟩; have n2_ : Aside0 (w8.heap[gs]? = some (.cells #[.string t1, .bool t2] 25 (0, 0))) := ⟨by rw [hw]; refine blk_put (cs := #[.string t1, .bool x1]) ?_ 1 _ rfl; refine blk_put (cs := #[.string x0, .bool x1]) ?_ 0 _ rfl; exact HBS.out⟩; have n3_ : Aside0 (w8.heap[gr]? = some (.cells #[.string (⟨#[]⟩ : ByteArray), .bool false] 25 (0, 0))) := ⟨by rw [hw]; exact blk_far (blk_far HBR.out (p := ⟨gs, 0, none⟩) NE2.out _) (p := ⟨gs, 1, none⟩) NE2.out _⟩; have n4_ : Aside0 (Below w.heap.size w w8) := ⟨by rw [hw]; exact below_set (below_set HB.out GS.out) GS.out⟩; clear hw hcz0 hcz1 hsz0 hsz1 hfz0 hfz1 HO HT HBS HBR HB BK; have HO := n0_; have HT := n1_; have HBS := n2_; have HBR := n3_; have HB := n4_; clear n0_ n1_ n2_ n3_ n4_) | ((with_reducible refine gw ?_); refine gl 27 Tryz.func41 #[.slice (some ⟨w8.heap.size, 0, none⟩) 2 2] ?_; have hnew : (w8.alloc (.cells #[.slice Ao xs.length co, .slice At t3.length ct] 28)).heap[w8.heap.size]? = some (.cells #[.slice Ao xs.length co, .slice At t3.length ct] 28 (0, 0)) := alloc_blk w8 _ _; (with_reducible refine (concatS w.heap.size ⟨w8.heap.size, 0, none⟩ (.slice Ao xs.length co) (.slice At t3.length ct) xs t3 (fun k_ => k_ < wr.heap.size) (fun k_ => wr.heap.size ≤ k_) _ ?c0 ?c1 ?h1 ?h2 ?hap ?hb HSUM.out).mono ?_); (case c0 => rw [add_at, Nat.zero_add]; exact (blk_cell hnew 0).trans rfl); (case c1 => rw [add_at, Nat.zero_add]; exact (blk_cell hnew 1).trans rfl); (case h1 => exact Kd.S_alloc HO.out _); (case h2 => exact Kd.S_alloc HT.out _); (case hap => exact fun k_ h1_ h2_ => by omega); (case hb => exact (below_alloc HB.out _).size); rintro e w9 ⟨v9, rfl, ho, hb⟩; refine ⟨_, rfl, ?_⟩; have n2_ := kb HBS hb; have n3_ := kb HBR hb; have n4_ := am (below_step (below_alloc HB.out _) hb); clear hnew hb HO HT HBS HBR HB; have HO := am ho; have HBS := n2_; have HBR := n3_; have HB := n4_; clear n2_ n3_ n4_ ho))
   go_roundw
   case rel => exact ⟨n + 1, t1, t2, xs ++ t3, by omega, by go_num, HF2, HO, HBS, HBR, HB⟩
   case measure => simp [intOf]; omega
  ·have hnn : n = l1.length := by omega
   have hF := HA.out
   rw [hnn, List.drop_length, feedGo] at hF
   simp only [Option.some.injEq, Prod.mk.injEq] at hF
   obtain ⟨rfl, rfl, rfl⟩ := hF
   have hs0 : wr.cell? ⟨gs, 0, none⟩ = some (.string x0) := (blk_cell HBS.out 0).trans rfl
   have hs1 : wr.cell? ⟨gs, 1, none⟩ = some (.bool x1) := (blk_cell HBS.out 1).trans rfl
   have hd0 : wr.cell? ⟨gr, 0, none⟩ = some (.string (⟨#[]⟩ : ByteArray)) := (blk_cell HBR.out 0).trans rfl
   have hd1 : wr.cell? ⟨gr, 1, none⟩ = some (.bool false) := (blk_cell HBR.out 1).trans rfl
   have hy0 := blk_frozen HBR.out 0
   have hy1 := blk_frozen HBR.out 1
   have HOT := am (Kd.S_types HO.out HBR.out (by decide))
   clear hn hnn
   go_wp2
   refine bodyPost_ret (results_ct rfl _ _ gr 25 #[.string x0, .bool x1] (0, 0) _ rfl (by (with_reducible repeat (first | refine blk_drewN ?_ _ | refine blk_drew ?_ | refine blk_alloc ?_ _)); refine blk_put (cs := #[.string x0, .bool false]) ?_ 1 _ rfl; refine blk_put (cs := #[.string (⟨#[]⟩ : ByteArray), .bool false]) ?_ 0 _ rfl; exact HBR.out) Tryz.underlying25 rfl (by kernel_rfl)) rfl ?_
   exact ⟨_, rfl, Kd.S_mono (Kd.S_far (p := ⟨gr, 1, none⟩) (Kd.S_far (p := ⟨gr, 0, none⟩) HOT.out (fun _ hk => hk.2) _) (fun _ hk => hk.2) _) (fun _ _ => trivial), below_set (below_set HB.out GR.out) GR.out⟩

end Go.Proofs.YtjckfmipegemcaaGreatDoor.All
