-- Written by a program of this session (wip/tools/hprint.py) out of the translation. Lean checks it.
import Derived.Test.YtogdmlgbdbgpkaaDoorAllx0
import Derived.Test.YtogdmlgbdbgpkaaDoorAllx1
namespace Go.Proofs.YtogdmlgbdbgpkaaDoor.All
open Go.RowKit Go.Proofs.YtogdmlgbdbgpkaaDoorW.PrintWords Go.Proofs.YtogdmlgbdbgpkaaDoorW.PrintLast Go.Proofs.YtogdmlgbdbgpkaaDoorW.PrintMore
attribute [local go_sem] max2_int min2_int max_two min_two max_three min_three max_four min_four   -- for this text's walks alone
set_option linter.unusedVariables false
set_option linter.unusedSimpArgs false

/-! ### spec_l4Digit: function 80 -/
def spec_l4Digit.f (a0 : Int) : Option (Int) := if a0 < 10 then (some ((wrap64 (48 + a0)) % 256)) else (some ((wrap64 (87 + a0)) % 256))
set_option maxHeartbeats 8000000 in
set_option maxRecDepth 100000 in
theorem spec_l4Digit.calls (a0 : Int) (r : Int) (w : World) (h : spec_l4Digit.f a0 = some r) :
    Calls Tryd.prog 80 #[.int .i64 a0] w fun e w' => e = .returned (.int .u8 r) ∧ Drawn0 w w' := by
  have H : (if a0 < 10 then (some ((wrap64 (48 + a0)) % 256)) else (some ((wrap64 (87 + a0)) % 256))) = some r := h
  clear h
  by_cases c2 : a0 < 10
  · rw [if_pos c2] at H
    have c2b0 : decide (a0 < 10) = true := decide_eq_true c2
    clear c2
    obtain rfl := Option.some.inj H
    go_enter Tryd.func80, Tryd.ntmps80
    go_wp2
    go_ret
    exact ⟨by first | rfl | (simp; done) | (simp [*]; done), by repeat (first | exact Drawn0.refl _ | apply Drawn0.step)⟩
  · rw [if_neg c2] at H
    have c2b0 : decide (a0 < 10) = false := decide_eq_false c2
    clear c2
    obtain rfl := Option.some.inj H
    go_enter Tryd.func80, Tryd.ntmps80
    go_wp2
    go_ret
    exact ⟨by first | rfl | (simp; done) | (simp [*]; done), by repeat (first | exact Drawn0.refl _ | apply Drawn0.step)⟩

/-! ### spec_Hex: function 15 -/
def spec_Hex.l0 : Nat → Int → ByteArray → Option (ByteArray)
  | 0, _, _ => none
  | k + 1, x0, x3 => if x0 > 0 then ((spec_l4Digit.f (Int.tmod x0 16)).bind fun t102 => ((some (([t102] : List Int) : List Int)).bind fun y103 => (if (strOfNums y103).size + x3.size ≤ 9223372036854775807 then (spec_Hex.l0 k (wrap64 (Int.tdiv x0 16)) ((strOfNums y103) ++ x3)) else (none)))) else (some x3)
def spec_Hex.f (k : Nat) (a0 : Int) : Option (ByteArray) := (spec_l1In.f a0 0 1000000).bind fun t101 => (if t101 = true then (if a0 = 0 then (some (⟨#[48]⟩ : ByteArray)) else (spec_Hex.l0 k a0 (⟨#[]⟩ : ByteArray))) else (some (⟨#[]⟩ : ByteArray)))
theorem spec_Hex.mono_l : ∀ k, (∀ y0 y1, LeO (spec_Hex.l0 k y0 y1) (spec_Hex.l0 (k + 1) y0 y1))
  | 0 => fun _ _ r h => by simp [spec_Hex.l0] at h
  | k + 1 => by
    have ih0 := spec_Hex.mono_l k
    · intro y0 y1
      unfold spec_Hex.l0
      repeat' first
      | (with_reducible exact ih0 _ _)
      | (with_reducible exact LeO.refl _)
      | (with_reducible exact LeO.none _)
      | (with_reducible refine LeO.ite ?_ ?_)
      | (with_reducible refine LeO.bind ?_ (fun _ => ?_))
      | exact ih0 _ _
      | exact LeO.none _
      | refine LeO.ite ?_ ?_
      | refine LeO.bind ?_ (fun _ => ?_)
theorem spec_Hex.mono : ∀ a0 k, LeO (spec_Hex.f k a0) (spec_Hex.f (k + 1) a0) := by
  intro a0 k
  have ih0 := spec_Hex.mono_l k
  unfold spec_Hex.f
  repeat' first
      | (with_reducible exact ih0 _ _)
      | (with_reducible exact LeO.refl _)
      | (with_reducible exact LeO.none _)
      | (with_reducible refine LeO.ite ?_ ?_)
      | (with_reducible refine LeO.bind ?_ (fun _ => ?_))
      | exact ih0 _ _
      | exact LeO.none _
      | refine LeO.ite ?_ ?_
      | refine LeO.bind ?_ (fun _ => ?_)
set_option maxHeartbeats 8000000 in
set_option maxRecDepth 100000 in
theorem spec_Hex.calls (k : Nat) (a0 : Int) (r : ByteArray) (w : World) (h : spec_Hex.f k a0 = some r) :
    Calls Tryd.prog 15 #[.int .i64 a0] w fun e w' => e = .returned (.string r) ∧ Below w.heap.size w w' := by
  have HB := Aside0.mk (Below.refl w.heap.size w)
  have H : ((spec_l1In.f a0 0 1000000).bind fun t101 => (if t101 = true then (if a0 = 0 then (some (⟨#[48]⟩ : ByteArray)) else (spec_Hex.l0 k a0 (⟨#[]⟩ : ByteArray))) else (some (⟨#[]⟩ : ByteArray)))) = some r := h
  clear h
  replace H := Option.bind_eq_some_iff.mp H
  obtain ⟨t101, A20, H⟩ := H
  replace H : (if t101 = true then (if a0 = 0 then (some (⟨#[48]⟩ : ByteArray)) else (spec_Hex.l0 k a0 (⟨#[]⟩ : ByteArray))) else (some (⟨#[]⟩ : ByteArray))) = some r := H
  have A2 := Aside0.mk A20
  clear A20
  by_cases c3 : t101 = true
  · subst c3
    have H1 : (if a0 = 0 then (some (⟨#[48]⟩ : ByteArray)) else (spec_Hex.l0 k a0 (⟨#[]⟩ : ByteArray))) = some r := by rw [if_pos rfl] at H; exact H
    clear H
    have H := H1
    clear H1
    by_cases c4 : a0 = 0
    · rw [if_pos c4] at H
      have c4b0 : (a0 == 0) = true := beq_iff_eq.mpr c4
      have c4b1 : (a0 != 0) = false := bne_eq_false_iff_eq.mpr c4
      clear c4
      obtain rfl := Option.some.inj H
      go_enter Tryd.func15, Tryd.ntmps15
      go_wp2_with (first | ((with_reducible refine gate_callee (f := 79) rfl ?_); refine goesL_ (some 5) rfl rfl Tryd.func79 (by kernel_rfl) rfl #[.int .i64 a0, .int .i64 0, .int .i64 1000000] rfl ma ?_; (with_reducible refine (spec_l1In.calls a0 0 1000000 true _ A2.out).mono ?_); rintro e w' ⟨rfl, ⟨nd, rfl⟩⟩; refine ⟨_, rfl, ?_⟩))
      go_ret
      exact ⟨rf, bl⟩
    · rw [if_neg c4] at H
      have c4b0 : (a0 == 0) = false := beq_eq_false_iff_ne.mpr c4
      have c4b1 : (a0 != 0) = true := bne_iff_ne.mpr c4
      have H' := Aside0.mk H
      clear H
      go_enter Tryd.func15, Tryd.ntmps15
      go_wp2_with (first | ((with_reducible refine gate_callee (f := 79) rfl ?_); refine goesL_ (some 5) rfl rfl Tryd.func79 (by kernel_rfl) rfl #[.int .i64 a0, .int .i64 0, .int .i64 1000000] rfl ma ?_; (with_reducible refine (spec_l1In.calls a0 0 1000000 true _ A2.out).mono ?_); rintro e w' ⟨rfl, ⟨nd, rfl⟩⟩; refine ⟨_, rfl, ?_⟩))
      (try simp only [Act.put, List.setIfInBounds_toArray, List.set_cons_zero, List.set_cons_succ])
      go_loopg [0, 3] k (fun kq v0 v3 w' => ∃ (x0_1 : Int) (x3_1 : ByteArray), v0 = .int .i64 x0_1 ∧ v3 = .string x3_1 ∧ Aside0 (spec_Hex.l0 kq x0_1 x3_1 = some r) ∧ Aside0 (kq ≤ k) ∧ Aside0 (Below w.heap.size w w'))
      case atStart => exact ⟨(a0), ((⟨#[]⟩ : ByteArray)), (by first | rfl | (simp; done) | (simp [*]; done)), (by first | rfl | (simp; done) | (simp [*]; done)), H', ⟨Nat.le_refl _⟩, ⟨by repeat (first | (with_reducible first | exact HB.out | apply below_alloc | apply pw_below_drewN | apply below_drew1) | exact HB.out)⟩⟩
      case round =>
        clear H'
        try clear c1
        try clear p2
        try clear c3
        try clear c4
        try clear c4b0
        try clear c4b1
        obtain ⟨x0_1, x3_1, rfl, rfl, HA, HK1, HB⟩ := hrel
        cases gk with
        | zero => exact absurd HA.out (by simp [spec_Hex.l0])
        | succ k1 =>
          have H := HA.out
          clear HA
          simp only [spec_Hex.l0] at H
          by_cases c5 : x0_1 > 0
          · rw [if_pos c5] at H
            have c5b0 : decide (0 < x0_1) = true := decide_eq_true c5
            clear c5
            replace H := Option.bind_eq_some_iff.mp H
            obtain ⟨t102, A60, H⟩ := H
            replace H : ((some (([t102] : List Int) : List Int)).bind fun y103 => (if (strOfNums y103).size + x3_1.size ≤ 9223372036854775807 then (spec_Hex.l0 k1 (wrap64 (Int.tdiv x0_1 16)) ((strOfNums y103) ++ x3_1)) else (none))) = some r := H
            have A6 := Aside0.mk A60
            clear A60
            obtain ⟨y103, hy103⟩ : ∃ y_ : List Int, y_ = (([t102] : List Int)) := ⟨_, rfl⟩
            replace H : (if (strOfNums y103).size + x3_1.size ≤ 9223372036854775807 then (spec_Hex.l0 k1 (wrap64 (Int.tdiv x0_1 16)) ((strOfNums y103) ++ x3_1)) else (none)) = some r := by first | (rw [hy103]; with_reducible exact H) | (have H2_ := (Option.bind_some _ _).symm.trans H; rw [hy103]; with_reducible exact H2_) | (have H2_ := (Option.bind_some _ _).symm.trans H; with_reducible exact H2_) | with_reducible exact H | (rw [hy103]; exact H) | exact H
            have Ny103 := Aside0.mk hy103
            clear hy103
            by_cases c7 : (strOfNums y103).size + x3_1.size ≤ 9223372036854775807
            · rw [if_pos c7] at H
              have c7b0 := eq_true c7
              have c7b1 : decide ((strOfNums y103).size + x3_1.size ≤ 9223372036854775807) = true := decide_eq_true c7
              try have c7b2 : (9223372036854775807 < (strOfNums y103).size + x3_1.size) = False := eq_false (Nat.not_lt.2 c7)
              have H' := Aside0.mk H
              clear H
              go_wp2_with (first | ((with_reducible refine gate_callee (f := 80) rfl ?_); refine goesL_ (some 13) rfl rfl Tryd.func80 (by kernel_rfl) rfl #[.int .i64 (Int.tmod x0_1 16)] rfl ma ?_; (with_reducible refine (spec_l4Digit.calls (Int.tmod x0_1 16) t102 _ A6.out).mono ?_); rintro e w' ⟨rfl, ⟨nd, rfl⟩⟩; refine ⟨_, rfl, ?_⟩) | ((with_reducible refine gate_dst (N := 14) rfl ?_); refine Kd.R_lit (Kd.int .u8) _ 5 ?hg (N := 14) ?hd (xs := ([t102] : List Int)) (inner := [.int .u8 t102]) (ok := fun _ => True) (okp := fun _ => True) ?hr ?hp (fun _ hk => hk) trivial (Below.refl _ _) (Nat.le_refl _) (by simp) ?_; (case hd => rfl); (case hg => rfl); (case hr => first | (go_simp; done) | (go_simp; rfl)); (case hp => exact (Reps.one (show Kd.M (Kd.int .u8) _ _ _ t102 [.int .u8 t102] from rfl) (Reps.none _ _))); intro v104 w8 ho9 hb hg_ hnew_; clear hg_ hnew_; (first | rw [← Ny103.out] at ho9 | (simp only [Int.reduceToNat] at ho9; rw [← Ny103.out] at ho9)); have HO105 := Aside0.mk (Kd.R_lower ho9 (below_size bl)); replace HB := Aside0.mk (below_step bl hb); clear hb ho9; have hcv10 := own_string (P := Tryd.prog) Tryd.underlying35 Tryd.underlying5 Tryd.underlying9 (Kd.own_of_R HO105.out)))
              go_roundg k1
              case measure => have := HK1.out; omega
              case rel => exact ⟨(wrap64 (Int.tdiv x0_1 16)), ((strOfNums y103) ++ x3_1), (by first | rfl | (simp; done) | (simp [*]; done)), (by first | rfl | (simp; done) | (simp [*]; done)), H', ⟨by have := HK1.out; omega⟩, ⟨by repeat (first | (with_reducible first | exact HB.out | apply below_alloc | apply pw_below_drewN | apply below_drew1) | exact HB.out)⟩⟩
            · rw [if_neg c7] at H
              exact absurd H (by simp)
          · rw [if_neg c5] at H
            have c5b0 : decide (0 < x0_1) = false := decide_eq_false c5
            clear c5
            obtain rfl := Option.some.inj H
            go_wp2
            go_ret
            exact ⟨rf, bl⟩
  · replace c3 := Bool.eq_false_iff.mpr c3
    subst c3
    have H1 : (some (⟨#[]⟩ : ByteArray)) = some r := by rw [if_neg (show ¬ (false = true) by decide)] at H; exact H
    clear H
    have H := H1
    clear H1
    obtain rfl := Option.some.inj H
    go_enter Tryd.func15, Tryd.ntmps15
    go_wp2_with (first | ((with_reducible refine gate_callee (f := 79) rfl ?_); refine goesL_ (some 5) rfl rfl Tryd.func79 (by kernel_rfl) rfl #[.int .i64 a0, .int .i64 0, .int .i64 1000000] rfl ma ?_; (with_reducible refine (spec_l1In.calls a0 0 1000000 false _ A2.out).mono ?_); rintro e w' ⟨rfl, ⟨nd, rfl⟩⟩; refine ⟨_, rfl, ?_⟩))
    go_ret
    exact ⟨rf, bl⟩

/-! ### internal/strconv.formatBits at base 16: digits laid into an array of the call's own, from its end on -/
def hexD (d : Nat) : UInt8 := UInt8.ofNat (if d < 10 then 48 + d else 87 + d)
def hexDs (u : Nat) : List UInt8 := if h : u < 16 then [hexD u] else hexDs (u / 16) ++ [hexD (u % 16)]
termination_by u
/-- an array of 65 bytes, the last of which hold D -/
def HexRow (b : Nat) (t : TypeId) (D : List UInt8) (w : World) : Prop :=
  ∃ C : Array Value, w.heap[b]? = some (.cells C t (0, 0)) ∧ C.size = 65 ∧ D.length ≤ 65 ∧ ∀ j (h : j < D.length), C[65 - D.length + j]? = some (.int .u8 (D[j].toNat : Int))
theorem HexRow.any {b : Nat} {t : TypeId} {D : List UInt8} {w : World} (h : HexRow b t D w) (j : Nat) (hj : j < 65) : (w.cell? ⟨b, j, none⟩).isSome = true ∧ w.frozen? ⟨b, j, none⟩ = false := by
  obtain ⟨C, h1, h2, _⟩ := h
  refine ⟨?_, blk_frozen h1 j⟩
  rw [blk_cell h1, Array.getElem?_eq_getElem (by omega)]; rfl
theorem HexRow.put {b : Nat} {t : TypeId} {D : List UInt8} {w : World} (h : HexRow b t D w) (hD : D.length < 65) (c : UInt8) : HexRow b t (c :: D) (w.setCell ⟨b, 65 - (D.length + 1), none⟩ (.int .u8 (c.toNat : Int))) := by
  obtain ⟨C, h1, h2, h3, h4⟩ := h
  refine ⟨C.setIfInBounds (65 - (D.length + 1)) (.int .u8 (c.toNat : Int)), blk_set h1 _ _, by simpa using h2, by simp; omega, fun j hj => ?_⟩
  rw [Array.getElem?_setIfInBounds]
  simp only [List.length_cons] at hj ⊢
  cases j with
  | zero => rw [if_pos (by omega), if_pos (by omega)]; rfl
  | succ j =>
    rw [if_neg (by omega), show 65 - (D.length + 1) + (j + 1) = 65 - D.length + j by omega, h4 j (by omega)]; rfl
theorem hexDs_step (v : Nat) (D : List UInt8) (h : 16 ≤ v) : hexDs v ++ D = hexDs (v / 16) ++ (hexD (v % 16) :: D) := by
  rw [hexDs, dif_neg (by omega), List.append_assoc]; rfl
theorem hexDs_last (v : Nat) (D : List UInt8) (h : v < 16) : hexDs v ++ D = hexD v :: D := by
  rw [hexDs, dif_pos h]; rfl
theorem hex_at (w : World) (d : Nat) (h : d < 16) : (Instr.index 9 (.string ⟨#[48, 49, 50, 51, 52, 53, 54, 55, 56, 57, 97, 98, 99, 100, 101, 102, 103, 104, 105, 106, 107, 108, 109, 110, 111, 112, 113, 114, 115, 116, 117, 118, 119, 120, 121, 122]⟩) (.int .u64 (d : Int))).run Tryd.prog w = .ok (.int .u8 ((hexD d).toNat : Int)) w := by
  rw [run_index_string w _ _ _ _ Tryd.underlying9, dif_pos ⟨by omega, by show (d : Int) < ((36 : Nat) : Int); omega⟩]
  simp only [Int.toNat_natCast]
  have : d = 0 ∨ d = 1 ∨ d = 2 ∨ d = 3 ∨ d = 4 ∨ d = 5 ∨ d = 6 ∨ d = 7 ∨ d = 8 ∨ d = 9 ∨ d = 10 ∨ d = 11 ∨ d = 12 ∨ d = 13 ∨ d = 14 ∨ d = 15 := by omega
  rcases this with rfl | rfl | rfl | rfl | rfl | rfl | rfl | rfl | rfl | rfl | rfl | rfl | rfl | rfl | rfl | rfl <;> rfl
theorem hex_tz64 (w : World) (hc : w.cell? ⟨5, 15, none⟩ = some (.int .u8 4)) :
    Calls Tryd.prog 165 #[.int .u64 16] w fun e w' => e = .returned (.int .i64 4) ∧ w' = w := by
  have key : IntKind.u64.wrap (Go.bits BinOp.and IntKind.u64 (16 : Int) (IntKind.u64.wrap (-(16 : Int))) * 285870213051353865) / 288230376151711744 = (15 : Int) := by decide +kernel
  go_enter Tryd.func165, Tryd.ntmps165
  go_wp2_with (simp only [key])
  go_ret
  exact ⟨rfl, rfl⟩
theorem hex_tz (w : World) (hc : w.cell? ⟨5, 15, none⟩ = some (.int .u8 4)) :
    Calls Tryd.prog 156 #[.int .u64 16] w fun e w' => e = .returned (.int .i64 4) ∧ w' = w := by
  go_enter Tryd.func156, Tryd.ntmps156
  go_wp2_with (go_at_call 165; refine (hex_tz64 _ hc).mono ?_; rintro e w' ⟨rfl, rfl⟩)
  go_ret
  exact ⟨rfl, rfl⟩
theorem hex_pow (w : World) : Calls Tryd.prog 155 #[.int .i64 16] w fun e w' => e = .returned (.bool true) ∧ Below w.heap.size w w' := by
  have key : (Go.bits BinOp.and IntKind.i64 (16 : Int) 15 == 0) = true := by decide +kernel
  go_enter Tryd.func155, Tryd.ntmps155
  go_wp2_with (simp only [key])
  go_ret
  exact ⟨rfl, Below.refl _ _⟩
theorem HexRow.start (w : World) : HexRow w.heap.size 165 [] (w.alloc (.cells Tryd.zeroCells165 165)) :=
  ⟨_, Array.getElem?_push_size .., by kernel_rfl, by simp, fun j hj => absurd hj (Nat.not_lt_zero j)⟩
theorem hex_and (v : Nat) (hv : v < 18446744073709551616) : Go.bits BinOp.and IntKind.u64 (v : Int) 15 = ((v % 16 : Nat) : Int) := by
  rw [show (15 : Int) = ((15 : Nat) : Int) from rfl, bits_and_u64_nat v 15 hv (by omega)]
  congr 1
  exact Nat.and_two_pow_sub_one_eq_mod v 4
set_option maxHeartbeats 8000000 in
set_option maxRecDepth 100000 in
theorem hex_bits (n : Nat) (hn : n ≤ 1000000) (w : World) (hGD : GLOBD w) :
    Calls Tryd.prog 141 #[.slice none 0 0, .int .u64 n, .int .i64 16, .bool false, .bool false] w fun e w' => e = .returned (.tuple #[.slice none 0 0, .string ⟨(hexDs n).toArray⟩]) ∧ Below w.heap.size w w' := by
  have HGD := Aside0.mk hGD
  have HN := Aside0.mk hn
  clear hGD
  have hn2 : (n : Int) < 18446744073709551616 := by omega
  go_enter Tryd.func141, Tryd.ntmps141
  go_wp2_with (first | (go_at_call 155; refine (hex_pow _).mono ?_; rintro e w1 ⟨rfl, hb⟩; have HB1 := Aside0.mk hb; clear hb) | (go_at_call 156; refine (hex_tz _ ?hc).mono ?_; (case hc => exact pw_cell_below (below_step (below_alloc (Below.refl _ _) _) HB1.out) HGD.out); rintro e w2 ⟨rfl, rfl⟩))
  have HS : Aside0 (HexRow w.heap.size 165 [] w2) := ⟨by
    obtain ⟨C, h1, h2⟩ := HexRow.start w
    exact ⟨C, blk_below h1 HB1.out, h2⟩⟩
  have HB2 : Aside0 (Below w.heap.size w w2) := ⟨below_step (below_alloc (Below.refl _ _) _) HB1.out⟩
  clear HB1
  go_loopw [1, 13] (fun vu vi wr => ∃ (v : Nat) (D : List UInt8), vu = .int .u64 v ∧ vi = .int .i64 ((65 - D.length : Nat) : Int) ∧ D.length ≤ 5 ∧ v * 16 ^ D.length ≤ 1000000 ∧ Aside0 (hexDs n = hexDs v ++ D) ∧ Aside0 (HexRow w.heap.size 165 D wr) ∧ Below w.heap.size w wr) (fun vu _ _ => (intOf vu).toNat)
  case atStart => exact ⟨n, [], rfl, rfl, by simp, by simpa using HN.out, ⟨by simp⟩, HS, HB2.out⟩
  case round =>
    obtain ⟨v, D, rfl, rfl, hD, hv, hE, hR, hb⟩ := hrel
    have hp : 16 ^ D.length = 1 ∨ 16 ≤ 16 ^ D.length := by
      cases D with
      | nil => exact .inl rfl
      | cons c r => right; rw [List.length_cons, Nat.pow_succ]; have : 0 < 16 ^ r.length := Nat.pow_pos (by omega); omega
    have hvs : v ≤ 1000000 := by
      rcases hp with hp | hp
      · rw [hp] at hv; omega
      · have := Nat.mul_le_mul_left v hp; omega
    have hE2 := Aside0.mk hE.out
    obtain ⟨j, hj⟩ : ∃ j, 65 - D.length = j + 1 := ⟨64 - D.length, by omega⟩
    have hjD : j = 65 - (D.length + 1) := by omega
    rw [hj]
    obtain ⟨hc0, hf0⟩ := hR.out.any j (by omega)
    obtain ⟨x0, hx0⟩ := Option.isSome_iff_exists.1 hc0
    have HJ := Aside0.mk hjD
    have HHJ := Aside0.mk hj
    have HHP := Aside0.mk hp
    have HHV := Aside0.mk hv
    have HHD := Aside0.mk hD
    have hj64 : (j : Int) < 65 := by omega
    clear hc0 hE hj hjD hp hv hD
    by_cases h16 : 16 ≤ v
    · have ka := hex_and v (by omega)
      obtain ⟨q, hq⟩ : ∃ q, q = v % 16 := ⟨_, rfl⟩
      rw [← hq] at ka
      have kx := fun W => hex_at W q (by omega)
      have hge : (16 : Int) ≤ (v : Int) := by omega
      have HQ := Aside0.mk hq
      clear hq
      go_wp2
      go_roundw
      case rel =>
        refine ⟨v / 16, hexD q :: D, by first | rfl | go_num, by rw [List.length_cons, ← HJ.out], ?_, ?_, ⟨by rw [hE2.out, hexDs_step v D h16, HQ.out]⟩, ⟨by have := hR.out.put (by have := HHD.out; omega) (hexD q); rw [← HJ.out] at this; exact this⟩, hb.setCell (by simp) _⟩
        · rcases HHP.out with hp | hp
          · have : D.length = 0 := by cases D with | nil => rfl | cons c r => rw [List.length_cons, Nat.pow_succ] at hp; omega
            simp [this]
          · have h5 : D.length ≤ 4 := by
              rcases Nat.lt_or_ge 4 D.length with h | h
              · have : D.length = 5 := by have := HHD.out; omega
                have hv := HHV.out
                rw [this] at hv
                omega
              · exact h
            rw [List.length_cons]; omega
        · rw [List.length_cons, Nat.pow_succ, Nat.mul_comm (16 ^ D.length) 16, ← Nat.mul_assoc]
          exact Nat.le_trans (Nat.mul_le_mul_right _ (Nat.div_mul_le_self v 16)) HHV.out
      case measure => simp [intOf]; omega
    · have kx := fun W => hex_at W v (by omega)
      have hge : ¬ (16 : Int) ≤ (v : Int) := by omega
      have hD1 := HHD.out
      have hal : Tryd.prog.arrayLen 165 = 65 := by kernel_rfl
      have kc : ∀ W, HexRow w.heap.size 165 (hexD v :: D) W → (convert 35 9 (.slice (some ⟨w.heap.size, j, none⟩) (65 - j) (65 - j))).run Tryd.prog W = .ok (.string ⟨(hexDs n).toArray⟩) W := fun W hW => by
        obtain ⟨C, h1, h2, h3, h4⟩ := hW
        have := run_convert_bytes_back (P := Tryd.prog) W 35 9 5 ⟨w.heap.size, j, none⟩ (65 - j) (hexD v :: D) Tryd.underlying35 Tryd.underlying5 Tryd.underlying9 (fun i hi => by
          rw [Lib.add_plain, blk_cell h1]
          have := h4 i hi
          rw [show 65 - (hexD v :: D).length + i = j + i by have := HJ.out; simp only [List.length_cons]; omega] at this
          exact this)
        rw [show (hexD v :: D).length = 65 - j by have := HJ.out; simp only [List.length_cons]; omega] at this
        rw [hE2.out, hexDs_last v D (by omega)]
        exact this
      have KC := Aside0.mk kc
      clear kc
      have hj0 : (0 : Int) ≤ (j : Int) := by omega
      have hjm : (j : Int) ≤ 65 := by omega
      have hsl : ∀ W, (Instr.sliceAt 165 (.pointer (some ⟨w.heap.size, 0, none⟩)) (some (.int .i64 (j : Int))) none none).run Tryd.prog W = .ok (.slice (some ⟨w.heap.size, j, none⟩) (65 - j) (65 - j)) W := fun W => by
        rw [run_sliceAt_array_l W 165 ⟨w.heap.size, 0, none⟩ (by simp [Program.arrayLen, Program.elem, Tryd.underlying165]) .i64 (j : Int) hj0 (by rw [hal]; omega)]
        go_simp
        omega
      clear hal
      go_wp2
      rw [KC.out _ (by have := hR.out.put (by have := HHD.out; omega) (hexD v); rw [← HJ.out] at this; exact this)]
      simp only [Result.andThen]
      rw [Oper.upon_value]
      go_wp2
      go_ret2
      exact ⟨rfl, hb.setCell (by simp) _⟩
theorem hex_fmt (n : Nat) (hn : n ≤ 1000000) (w : World) (hGD : GLOBD w) :
    Calls Tryd.prog 119 #[.int .i64 n, .int .i64 16] w fun e w' => e = .returned (.string ⟨(hexDs n).toArray⟩) ∧ Below w.heap.size w w' := by
  have HGD := Aside0.mk hGD
  have HN := Aside0.mk hn
  clear hGD
  have hw : IntKind.u64.wrap (n : Int) = (n : Int) := by rw [IntKind.wrap_u64]; omega
  have hn2 : ¬ (n : Int) < 0 := by omega
  go_enter Tryd.func119, Tryd.ntmps119
  go_wp2_with (first | (go_at_call 141; refine (hex_bits n HN.out _ HGD.out).mono ?_; rintro e w1 ⟨rfl, hb⟩; have HB1 := Aside0.mk hb; clear hb))
  go_ret
  exact ⟨rfl, HB1.out⟩

/-! ### strconv.FormatInt at base 16 -/
def strconv_FormatInt.f (a0 a1 : Int) : Option ByteArray := if 0 ≤ a0 ∧ a0 ≤ 1000000 ∧ a1 = 16 then some ⟨(hexDs a0.toNat).toArray⟩ else none
theorem strconv_FormatInt.calls (a0 a1 : Int) (r : ByteArray) (w : World) (hGD : GLOBD w) (h : strconv_FormatInt.f a0 a1 = some r) :
    Calls Tryd.prog 82 #[.int .i64 a0, .int .i64 a1] w fun e w' => e = .returned (.string r) ∧ Below w.heap.size w w' := by
  unfold strconv_FormatInt.f at h
  split at h
  case isFalse => cases h
  rename_i hl
  obtain rfl := Option.some.inj h
  obtain ⟨h0, h1, rfl⟩ := hl
  obtain ⟨n, rfl⟩ : ∃ n : Nat, a0 = n := ⟨a0.toNat, by omega⟩
  rw [Int.toNat_natCast]
  have HGD := Aside0.mk hGD
  have HN := Aside0.mk (show n ≤ 1000000 by omega)
  clear hGD h
  go_enter Tryd.func82, Tryd.ntmps82
  go_wp2_with (go_at_call 119; refine (hex_fmt n HN.out _ HGD.out).mono ?_; rintro e w1 ⟨rfl, hb⟩; have HB1 := Aside0.mk hb; clear hb)
  go_ret
  exact ⟨rfl, HB1.out⟩

/-! ### impl_Hex: function 16 -/
def impl_Hex.f (a0 : Int) : Option (ByteArray) := (impl_inRange.f a0 0 1000000).bind fun t106 => (if t106 = true then ((strconv_FormatInt.f a0 16).bind fun t107 => (some t107)) else (some (⟨#[]⟩ : ByteArray)))
set_option maxHeartbeats 8000000 in
set_option maxRecDepth 100000 in
theorem impl_Hex.calls (a0 : Int) (r : ByteArray) (w : World) (hGD : GLOBD w) (h : impl_Hex.f a0 = some r) :
    Calls Tryd.prog 16 #[.int .i64 a0] w fun e w' => e = .returned (.string r) ∧ Below w.heap.size w w' := by
  have HGD := Aside0.mk hGD
  clear hGD
  have HB := Aside0.mk (Below.refl w.heap.size w)
  have H : ((impl_inRange.f a0 0 1000000).bind fun t106 => (if t106 = true then ((strconv_FormatInt.f a0 16).bind fun t107 => (some t107)) else (some (⟨#[]⟩ : ByteArray)))) = some r := h
  clear h
  replace H := Option.bind_eq_some_iff.mp H
  obtain ⟨t106, A20, H⟩ := H
  replace H : (if t106 = true then ((strconv_FormatInt.f a0 16).bind fun t107 => (some t107)) else (some (⟨#[]⟩ : ByteArray))) = some r := H
  have A2 := Aside0.mk A20
  clear A20
  by_cases c3 : t106 = true
  · subst c3
    have H1 : ((strconv_FormatInt.f a0 16).bind fun t107 => (some t107)) = some r := by rw [if_pos rfl] at H; exact H
    clear H
    have H := H1
    clear H1
    replace H := Option.bind_eq_some_iff.mp H
    obtain ⟨t107, A40, H⟩ := H
    replace H : (some t107) = some r := H
    have A4 := Aside0.mk A40
    clear A40
    obtain rfl := Option.some.inj H
    go_enter Tryd.func16, Tryd.ntmps16
    go_wp2_with (first | ((with_reducible refine gate_callee (f := 81) rfl ?_); refine goesL_ (some 4) rfl rfl Tryd.func81 (by kernel_rfl) rfl #[.int .i64 a0, .int .i64 0, .int .i64 1000000] rfl ma ?_; (with_reducible refine (impl_inRange.calls a0 0 1000000 true _ A2.out).mono ?_); rintro e w' ⟨rfl, ⟨nd, rfl⟩⟩; refine ⟨_, rfl, ?_⟩) | ((with_reducible refine gate_callee (f := 82) rfl ?_); refine goesL_ (some 7) rfl rfl Tryd.func82 (by kernel_rfl) rfl #[.int .i64 a0, .int .i64 16] rfl ma ?_; (with_reducible refine (strconv_FormatInt.calls a0 16 t107 _ ?side1 A4.out).mono ?_); (case side1 => exact GLOBD.below HGD.out bl); rintro e w5 ⟨rfl, hb⟩; refine ⟨_, rfl, ?_⟩; replace HB := Aside0.mk (below_step bl hb); (try clear hb); (try clear hb2); (try clear hk); (try clear hi)))
    go_ret
    exact ⟨rf, bl⟩
  · replace c3 := Bool.eq_false_iff.mpr c3
    subst c3
    have H1 : (some (⟨#[]⟩ : ByteArray)) = some r := by rw [if_neg (show ¬ (false = true) by decide)] at H; exact H
    clear H
    have H := H1
    clear H1
    obtain rfl := Option.some.inj H
    go_enter Tryd.func16, Tryd.ntmps16
    go_wp2_with (first | ((with_reducible refine gate_callee (f := 81) rfl ?_); refine goesL_ (some 4) rfl rfl Tryd.func81 (by kernel_rfl) rfl #[.int .i64 a0, .int .i64 0, .int .i64 1000000] rfl ma ?_; (with_reducible refine (impl_inRange.calls a0 0 1000000 false _ A2.out).mono ?_); rintro e w' ⟨rfl, ⟨nd, rfl⟩⟩; refine ⟨_, rfl, ?_⟩))
    go_ret
    exact ⟨rf, bl⟩

/-! ### laws_FnExactHex: function 3 -/
def laws_FnExactHex.f (k : Nat) (a0 : Int) : Option (Bool) := (spec_Hex.f k a0).bind fun t108 => ((impl_Hex.f a0).bind fun t109 => (if t109.toList = t108.toList then (some true) else (some false)))
theorem laws_FnExactHex.mono : ∀ a0 k, LeO (laws_FnExactHex.f k a0) (laws_FnExactHex.f (k + 1) a0) := by
  intro a0 k
  unfold laws_FnExactHex.f
  repeat' first
      | (with_reducible exact spec_Hex.mono _ _)
      | (with_reducible exact LeO.refl _)
      | (with_reducible exact LeO.none _)
      | (with_reducible refine LeO.ite ?_ ?_)
      | (with_reducible refine LeO.bind ?_ (fun _ => ?_))
      | exact spec_Hex.mono _ _
      | exact LeO.none _
      | refine LeO.ite ?_ ?_
      | refine LeO.bind ?_ (fun _ => ?_)
set_option maxHeartbeats 8000000 in
set_option maxRecDepth 100000 in
theorem laws_FnExactHex.calls (k : Nat) (a0 : Int) (r : Bool) (w : World) (hGD : GLOBD w) (ht_ : r = true) (h : laws_FnExactHex.f k a0 = some r) :
    Calls Tryd.prog 3 #[.int .i64 a0] w fun e w' => e = .returned (.bool r) ∧ Below w.heap.size w w' := by
  have HGD := Aside0.mk hGD
  clear hGD
  have HB := Aside0.mk (Below.refl w.heap.size w)
  have H : ((spec_Hex.f k a0).bind fun t108 => ((impl_Hex.f a0).bind fun t109 => (if t109.toList = t108.toList then (some true) else (some false)))) = some r := h
  clear h
  replace H := Option.bind_eq_some_iff.mp H
  obtain ⟨t108, A20, H⟩ := H
  replace H : ((impl_Hex.f a0).bind fun t109 => (if t109.toList = t108.toList then (some true) else (some false))) = some r := H
  have A2 := Aside0.mk A20
  clear A20
  replace H := Option.bind_eq_some_iff.mp H
  obtain ⟨t109, A30, H⟩ := H
  replace H : (if t109.toList = t108.toList then (some true) else (some false)) = some r := H
  have A3 := Aside0.mk A30
  clear A30
  by_cases c4 : t109.toList = t108.toList
  · rw [if_pos c4] at H
    have c4b0 : (t109.toList == t108.toList) = true := beq_iff_eq.mpr c4
    have c4b1 : (t109.toList != t108.toList) = false := bne_eq_false_iff_eq.mpr c4
    clear c4
    obtain rfl := Option.some.inj H
    go_enter Tryd.func3, Tryd.ntmps3
    go_wp2_with (first | ((with_reducible refine gate_callee (f := 15) rfl ?_); refine goesL_ (some 6) rfl rfl Tryd.func15 (by kernel_rfl) rfl #[.int .i64 a0] rfl ma ?_; (with_reducible refine (spec_Hex.calls k a0 t108 _ A2.out).mono ?_); rintro e w5 ⟨rfl, hb⟩; refine ⟨_, rfl, ?_⟩; replace HB := Aside0.mk (below_step bl hb); (try clear hb); (try clear hb2); (try clear hk); (try clear hi)) | ((with_reducible refine gate_callee (f := 16) rfl ?_); refine goesL_ (some 8) rfl rfl Tryd.func16 (by kernel_rfl) rfl #[.int .i64 a0] rfl ma ?_; (with_reducible refine (impl_Hex.calls a0 t109 _ ?side1 A3.out).mono ?_); (case side1 => exact GLOBD.below HGD.out bl); rintro e w6 ⟨rfl, hb⟩; refine ⟨_, rfl, ?_⟩; replace HB := Aside0.mk (below_step bl hb); (try clear hb); (try clear hb2); (try clear hk); (try clear hi)))
    go_ret
    exact ⟨rf, bl⟩
  · rw [if_neg c4] at H
    have c4b0 : (t109.toList == t108.toList) = false := beq_eq_false_iff_ne.mpr c4
    have c4b1 : (t109.toList != t108.toList) = true := bne_iff_ne.mpr c4
    exact absurd (Option.some.inj H) (by rw [ht_]; decide)

end Go.Proofs.YtogdmlgbdbgpkaaDoor.All
