/- What the printed functions answer, in plain words: lemmas of this session. No condition of a statement lies here. -/
import Derived.Test.YtjlpjbkpmmpojaaGreatDoorAllx0
import Derived.Test.YtjlpjbkpmmpojaaGreatDoorAllx1
import Derived.Test.YtjlpjbkpmmpojaaGreatDoorAllx19
import Derived.Test.YtjlpjbkpmmpojaaGreatDoorAllx25
import Derived.Test.YtjlpjbkpmmpojaaGreatDoorAllx29
import Derived.Test.YtjlpjbkpmmpojaaGreatDoorAllx30
import Derived.Test.YtjlpjbkpmmpojaaGreatDoorAllx31
import Derived.Test.YtjlpjbkpmmpojaaGreatDoorAllx32
import Derived.Test.YtjlpjbkpmmpojaaGreatDoorAllx8
import Derived.Test.YtjlpjbkpmmpojaaGreatDoorQh157cdd32
import Derived.Test.YtjlpjbkpmmpojaaGreatDoorQh530b3981
import Derived.Test.YtjlpjbkpmmpojaaGreatDoorQh8b9afb84
import Derived.Test.YtjlpjbkpmmpojaaGreatDoorQh9e1d5814
import Derived.Test.YtjlpjbkpmmpojaaGreatDoorQhe8f9b8cd
namespace Go.Proofs.YtjlpjbkpmmpojaaGreatDoor.Pure
open Go.RowKit Go.Proofs.YtjlpjbkpmmpojaaGreatDoor.All Go.Proofs.YtjlpjbkpmmpojaaGreatDoorW.PrintWords Go.Proofs.YtjlpjbkpmmpojaaGreatDoorW.PrintLast
set_option linter.unusedVariables false
set_option linter.unusedSimpArgs false

theorem path_size {p : ByteArray} (h : pathB p = true) : 1 ≤ p.size ∧ p.size ≤ 60 := by
  unfold pathB at h
  simp only [Bool.and_eq_true, decide_eq_true_eq] at h
  omega
/-! ### the lines of a head -/
theorem octv {c d : UInt8} {n : Int} (h : (d.toNat : Int) = n) : ((c.toNat : Int) = n) ↔ c = d := by
  subst h
  constructor
  · intro h; exact UInt8.toNat_inj.1 (by omega)
  · rintro rfl; rfl
theorem w64_n1 {j : Nat} (h : j ≤ 1048576) : wrap64 ((j : Int) + 1) = ((j + 1 : Nat) : Int) := by rw [w64 (by omega)]; omega
theorem w64_n2 {j : Nat} (h : j ≤ 1048576) : wrap64 ((j : Int) + 2) = ((j + 2 : Nat) : Int) := by rw [w64 (by omega)]; omega
theorem w64_m1 {j : Nat} (h1 : 1 ≤ j) (h : j ≤ 1048576) : wrap64 ((j : Int) - 1) = ((j - 1 : Nat) : Int) := by rw [w64 (by omega)]; omega
def firstOf : List (List UInt8) → List UInt8
  | [] => []
  | x :: _ => x
theorem lineT_first (body : List UInt8) : ∀ L : List (List UInt8), ∃ rest, lineT L ++ (13 :: 10 :: body) = firstOf L ++ (13 :: 10 :: rest)
  | [] => ⟨body, rfl⟩
  | x :: r => ⟨lineT r ++ (13 :: 10 :: body), by simp [lineT, firstOf]⟩
theorem drop_get {l x t : List UInt8} {f j : Nat} (h : l.drop f = x ++ t) (h1 : f ≤ j) (h2 : j < f + x.length) : l[j]? = x[j - f]? := by
  rw [← List.getElem?_append_left (l₂ := t) (by omega : j - f < x.length), ← h, List.getElem?_drop, show f + (j - f) = j by omega]
theorem in_first {l x t : List UInt8} {f j : Nat} (h : l.drop f = x ++ t) (h1 : f ≤ j) (h2 : j < f + x.length) (hj : j < l.length) : l[j] ∈ x := by
  have e := drop_get h h1 h2
  rw [List.getElem?_eq_getElem hj] at e
  exact List.mem_of_getElem? e.symm
theorem nl_at {l x rest : List UInt8} {f : Nat} (h : l.drop f = x ++ (13 :: 10 :: rest)) : l[f + x.length]? = some 13 ∧ l[f + x.length + 1]? = some 10 ∧ f + x.length + 2 ≤ l.length := by
  have h13 : (l.drop f)[x.length]? = some 13 := by rw [h, List.getElem?_append_right (Nat.le_refl _), Nat.sub_self]; rfl
  have h10 : (l.drop f)[x.length + 1]? = some 10 := by rw [h, List.getElem?_append_right (by omega), Nat.add_sub_cancel_left]; rfl
  rw [List.getElem?_drop] at h13 h10
  have hl := congrArg List.length h
  simp only [List.length_drop, List.length_append, List.length_cons] at hl
  exact ⟨h13, h10, by omega⟩
theorem get_of {l : List UInt8} {j : Nat} {c : UInt8} (h : l[j]? = some c) (hj : j < l.length) : l[j] = c := by
  rw [List.getElem?_eq_getElem hj] at h; exact Option.some.inj h
theorem cut_line {s : ByteArray} {f : Nat} {x t : List UInt8} (h : (B s).drop f = x ++ t) : s.extract f (f + x.length) = Tx x := by
  apply B_ext
  rw [B_extract, B_Tx, List.drop_take, h, Nat.add_sub_cancel_left, List.take_left]
theorem spec_l3Head_l0 (s : ByteArray) (hs : s.size ≤ 1048576) : ∀ (d k i f : Nat) (acc : List ByteArray), s.size - i = d → 1 ≤ i → f ≤ i → f ≤ s.size → acc.length ≤ f → (∀ x ∈ acc, x.size ≤ s.size) → 2 * d + 4 < k →
    ∃ ls e, spec_l3Head.l0 k s acc f i = some (ls, e) ∧ ls.length ≤ s.size ∧ (∀ x ∈ ls, x.size ≤ s.size) ∧ e ≤ s.size ∧ (e = -1 ∨ 1 ≤ e) ∧ ∀ L body, GoodL L → (B s).drop f = lineT L ++ (13 :: 10 :: body) → i ≤ f + (firstOf L).length + 1 → ls = acc ++ L.map Tx ∧ e = ((f + (lineT L).length + 2 : Nat) : Int) := by
  intro d
  induction d with
  | zero =>
    intro k i f acc hd h1 hf hfs ha hx hk
    obtain ⟨k, rfl⟩ := succ_of (show 0 < k by omega)
    refine ⟨acc, -1, ?_, by omega, hx, by omega, .inl rfl, fun L body hg hL hi => ?_⟩
    · simp only [spec_l3Head.l0]; rw [if_neg (by omega)]
    · exfalso
      obtain ⟨rest, e⟩ := lineT_first body L
      have := (nl_at (hL.trans e)).2.2
      rw [B_len] at this; omega
  | succ d ih =>
    intro k i f acc hd h1 hf hfs ha hx hk
    obtain ⟨k, rfl⟩ := succ_of (show 1 < k by omega)
    obtain ⟨k, rfl⟩ := succ_of (show 0 < k by omega)
    have hlt : i < s.size := by omega
    have hl : i < (B s).length := by rw [B_len]; omega
    have hl1 : i - 1 < (B s).length := by omega
    have hiz : i ≤ 1048576 := by omega
    have go : (¬ ((B s)[i] = 10 ∧ (B s)[i - 1] = 13 ∧ f ≤ i - 1)) → ∃ ls e, spec_l3Head.l0 k s acc f ((i + 1 : Nat) : Int) = some (ls, e) ∧ ls.length ≤ s.size ∧ (∀ x ∈ ls, x.size ≤ s.size) ∧ e ≤ s.size ∧ (e = -1 ∨ 1 ≤ e) ∧ ∀ L body, GoodL L → (B s).drop f = lineT L ++ (13 :: 10 :: body) → i ≤ f + (firstOf L).length + 1 → ls = acc ++ L.map Tx ∧ e = ((f + (lineT L).length + 2 : Nat) : Int) := by
      intro hn
      obtain ⟨ls, e, g1, g2, g3, g4, g5, g6⟩ := ih k (i + 1) f acc (by omega) (by omega) (by omega) hfs ha hx (by omega)
      refine ⟨ls, e, g1, g2, g3, g4, g5, fun L body hg hL hi => g6 L body hg hL ?_⟩
      by_cases he : i = f + (firstOf L).length + 1
      · exfalso
        obtain ⟨rest, e2⟩ := lineT_first body L
        obtain ⟨n1, n2, _⟩ := nl_at (hL.trans e2)
        refine hn ⟨get_of (by rw [he]; exact n2) hl, get_of (by rw [show i - 1 = f + (firstOf L).length by omega]; exact n1) hl1, by omega⟩
      · omega
    simp only [spec_l3Head.l0]
    rw [if_pos (by omega), if_pos (by omega), bt_get s i hl]
    by_cases c : (B s)[i] = 10
    · rw [if_pos ((octv (d := 10) (n := 10) rfl).2 c), w64_m1 h1 hiz, if_pos (by omega), if_pos (by omega), bt_get s (i - 1) hl1]
      by_cases c2 : (B s)[i - 1] = 13
      · rw [if_pos ((octv (d := 13) (n := 13) rfl).2 c2)]
        simp only [spec_l3Head.j1]
        by_cases c3 : i - 1 < f
        · rw [if_pos (decide_eq_true (by omega)), w64_n1 hiz]
          exact go (fun h => by omega)
        · clear go
          rw [if_neg (by rw [decide_eq_false (by omega)]; simp), if_pos (by omega), w64_m1 h1 hiz, if_pos (by omega), if_pos (by omega), Int.toNat_natCast, Int.toNat_natCast, w64_n1 hiz]
          by_cases c4 : (s.extract f (i - 1)).toList = []
          · rw [if_pos c4]
            refine ⟨acc, _, rfl, by omega, hx, by omega, .inr (by omega), fun L body hg hL hi => ?_⟩
            have hz : (s.extract f (i - 1)).size = 0 := by rw [← B_len, ← toList_B, c4]; rfl
            rw [ByteArray.size_extract] at hz
            cases L with
            | nil => exact ⟨by simp, by simp only [lineT, List.length_nil]; omega⟩
            | cons x r =>
              exfalso
              have hgx := hg x (by simp)
              have hx0 : 0 < x.length := List.length_pos_iff.2 hgx.1
              have e2 : (B s).drop f = x ++ (13 :: 10 :: (lineT r ++ (13 :: 10 :: body))) := by rw [hL]; simp [lineT]
              have := in_first e2 (j := i - 1) (by omega) (by omega) hl1
              rw [c2] at this
              exact hgx.2.1 this
          · rw [if_neg c4, if_pos (by omega)]
            have hsz : (s.extract f (i - 1)).size ≤ s.size := by rw [ByteArray.size_extract]; omega
            obtain ⟨ls, e, g1, g2, g3, g4, g5, g6⟩ := ih k (i + 1) (i + 1) (acc ++ [s.extract f (i - 1)]) (by omega) (by omega) (by omega) (by omega) (by simp; omega) (fun x hx' => by
              rcases List.mem_append.1 hx' with hx' | hx'
              · exact hx x hx'
              · rw [List.mem_singleton.1 hx']; exact hsz) (by omega)
            refine ⟨ls, e, g1, g2, g3, g4, g5, fun L body hg hL hi => ?_⟩
            cases L with
            | nil =>
              exfalso
              apply c4
              simp only [firstOf, List.length_nil] at hi
              rw [toList_B, B_extract, List.drop_eq_nil_of_le (by rw [List.length_take]; omega)]
            | cons x r =>
              have hgx := hg x (by simp)
              have e2 : (B s).drop f = x ++ (13 :: 10 :: (lineT r ++ (13 :: 10 :: body))) := by rw [hL]; simp [lineT]
              simp only [firstOf] at hi
              have hi2 : i - 1 = f + x.length := by
                by_cases hq : i - 1 < f + x.length
                · exfalso
                  have := in_first e2 (j := i - 1) (by omega) hq hl1
                  rw [c2] at this
                  exact hgx.2.1 this
                · omega
              have e3 : (B s).drop (i + 1) = lineT r ++ (13 :: 10 :: body) := by
                rw [show i + 1 = f + (x.length + 2) by omega, ← List.drop_drop, e2, List.drop_append, List.drop_eq_nil_of_le (by omega), List.nil_append, Nat.add_sub_cancel_left]; rfl
              have hxt : s.extract f (i - 1) = Tx x := by rw [hi2]; exact cut_line e2
              obtain ⟨q1, q2⟩ := g6 r body (fun y hy => hg y (by simp [hy])) e3 (by omega)
              refine ⟨by rw [q1, hxt]; simp, ?_⟩
              rw [q2]
              simp only [lineT, List.length_append, List.length_cons]
              omega
      · rw [if_neg (fun h => c2 ((octv (d := 13) (n := 13) rfl).1 h))]
        simp only [spec_l3Head.j1]
        rw [if_pos trivial, w64_n1 hiz]
        exact go (fun h => c2 h.2.1)
    · rw [if_neg (fun h => c ((octv (d := 10) (n := 10) rfl).1 h))]
      simp only [spec_l3Head.j1]
      rw [if_pos trivial, w64_n1 hiz]
      exact go (fun h => c h.1)
theorem spec_l3Head_f {k : Nat} {s : ByteArray} (hs : s.size ≤ 1048576) (hk : 2 * s.size + 10 < k) : ∃ ls e, spec_l3Head.f k s = some (ls, e) ∧ ls.length ≤ s.size ∧ (∀ x ∈ ls, x.size ≤ s.size) ∧ e ≤ s.size ∧ (e = -1 ∨ 1 ≤ e) ∧ ∀ L body, GoodL L → B s = lineT L ++ (13 :: 10 :: body) → ls = L.map Tx ∧ e = (((lineT L).length + 2 : Nat) : Int) := by
  obtain ⟨ls, e, g1, g2, g3, g4, g5, g6⟩ := spec_l3Head_l0 s hs (s.size - 1) k 1 0 [] (by omega) (by omega) (by omega) (by omega) (by simp) (fun x hx => by cases hx) (by omega)
  refine ⟨ls, e, g1, g2, g3, g4, g5, fun L body hg hL => ?_⟩
  have := g6 L body hg hL (by omega)
  rw [List.nil_append, Nat.zero_add] at this
  exact this
/-! ### words between blanks -/
theorem spec_l3Words_l0 (s : ByteArray) (hs : s.size ≤ 1048576) : ∀ (d k f i : Nat) (acc : List ByteArray), s.size - i = d → i ≤ s.size → f ≤ i → acc.length ≤ i → (∀ j (h : j < (B s).length), f ≤ j → j < i → (B s)[j] ≠ 32) → d + 2 < k →
    spec_l3Words.l0 k s acc f i = some (acc ++ splitBs (s.extract f s.size) ⟨#[32]⟩) := by
  intro d
  induction d with
  | zero =>
    intro k f i acc hd hi hf ha hno hk
    obtain ⟨k, rfl⟩ := succ_of (show 1 < k by omega)
    have hiz : i = s.size := by omega
    have hsp : splitBs (s.extract f s.size) ⟨#[32]⟩ = [s.extract f s.size] := split1_none _ _ (fun j hj => by
      obtain ⟨h1, h2, h3⟩ := B_get_extract s f s.size j hj
      rw [h2]; exact hno (f + j) h1 (by omega) (by omega))
    rw [hsp]
    have fin : ∀ acc', spec_l3Words.l0 k s acc' ((s.size : Int) + 1) ((s.size : Int) + 1) = some acc' := fun acc' => by
      obtain ⟨k, rfl⟩ := succ_of (show 0 < k by omega)
      simp only [spec_l3Words.l0]; rw [if_neg (by omega)]
    simp only [spec_l3Words.l0]
    rw [if_pos (by omega), if_pos (by omega), if_pos (by omega), if_pos (by omega), if_pos (by omega), Int.toNat_natCast, Int.toNat_natCast, hiz, w64 (by omega), fin]
  | succ d ih =>
    intro k f i acc hd hi hf ha hno hk
    obtain ⟨k, rfl⟩ := succ_of (show 0 < k by omega)
    have hl : i < (B s).length := by rw [B_len]; omega
    have hr : wrap64 ((i : Int) + 1) = ((i + 1 : Nat) : Int) := nat_round (n := s.size) (by omega) (by omega)
    simp only [spec_l3Words.l0]
    rw [if_pos (by omega), if_neg (by omega), if_pos (by omega), if_pos (by omega), bt_get s i hl]
    by_cases c : (B s)[i] = 32
    · have hsp : splitBs (s.extract f s.size) ⟨#[32]⟩ = s.extract f i :: splitBs (s.extract (i + 1) s.size) ⟨#[32]⟩ := by
        have hz : (s.extract f s.size).size = s.size - f := by rw [ByteArray.size_extract]; omega
        have hlt : i - f < (B (s.extract f s.size)).length := by rw [B_len, hz]; omega
        obtain ⟨g1, g2, _⟩ := B_get_extract s f s.size (i - f) hlt
        rw [split1_at (s.extract f s.size) 32 (i - f) hlt (by rw [g2]; simp only [show f + (i - f) = i by omega]; exact c) (fun j hj hji => by
          obtain ⟨h1, h2, h3⟩ := B_get_extract s f s.size j hj
          rw [h2]; exact hno (f + j) h1 (by omega) (by omega)), ByteArray.extract_extract, hz, ByteArray.extract_extract]
        rw [show min (f + (i - f)) s.size = i by omega, show min (f + (s.size - f)) s.size = s.size by omega, show f + (i - f + 1) = i + 1 by omega, Nat.add_zero]
      rw [if_pos ((octv (d := 32) (n := 32) rfl).2 c), if_pos (by omega), if_pos (by omega), if_pos (by omega), Int.toNat_natCast, Int.toNat_natCast, hr, ih k (i + 1) (i + 1) _ (by omega) (by omega) (by omega) (by simp; omega) (fun j _ h1 h2 => by omega) (by omega), hsp, List.append_assoc]; rfl
    · rw [if_neg (fun h => c ((octv (d := 32) (n := 32) rfl).1 h)), hr]
      refine ih k f (i + 1) acc (by omega) (by omega) (by omega) (by omega) (fun j h h1 h2 => ?_) (by omega)
      by_cases e : j = i
      · subst e; exact c
      · exact hno j h h1 (by omega)
theorem spec_l3Words_f {k : Nat} {s : ByteArray} (hs : s.size ≤ 1048576) (hk : s.size + 2 < k) : spec_l3Words.f k s = some (splitBs s ⟨#[32]⟩) := by
  have := spec_l3Words_l0 s hs s.size k 0 0 [] (by omega) (by omega) (by omega) (by simp) (fun j _ _ h => by omega) hk
  rw [List.nil_append, extract_all0] at this
  exact this
/-! ### what stands in right texts: bytes -/
theorem tok_free {s : ByteArray} (h : tokB s = true) {c : UInt8} (hc : tok1 c = false) : c ∉ B s := by
  unfold tokB at h
  rw [Bool.and_eq_true, List.all_eq_true] at h
  intro hm
  rw [h.1 c hm] at hc
  cases hc
theorem tok_bytes {s : ByteArray} (h : tokB s = true) : ∀ c ∈ B s, 33 ≤ c.toNat ∧ c.toNat ≤ 126 := by
  unfold tokB at h
  rw [Bool.and_eq_true, List.all_eq_true] at h
  intro c hm
  have := of_decide_eq_true (h.1 c hm)
  omega
theorem val_bytes {s : ByteArray} (h : valB s = true) : ∀ c ∈ B s, 32 ≤ c.toNat ∧ c.toNat ≤ 126 := by
  unfold valB fromB at h
  rw [Bool.and_eq_true, Bool.and_eq_true, List.all_eq_true] at h
  intro c hm
  have := of_decide_eq_true (h.1.2 c hm)
  omega
theorem ge32_free {l : List UInt8} (h : ∀ c ∈ l, 32 ≤ c.toNat) {c : UInt8} (hc : c.toNat < 32) : c ∉ l := fun hm => by
  have := h c hm; omega
theorem ge33_free {l : List UInt8} (h : ∀ c ∈ l, 33 ≤ c.toNat) {c : UInt8} (hc : c.toNat < 33) : c ∉ l := fun hm => by
  have := h c hm; omega
theorem goodL_of {L : List (List UInt8)} (h : ∀ x ∈ L, x ≠ [] ∧ ∀ c ∈ x, 32 ≤ c.toNat) : GoodL L := fun x hx =>
  ⟨(h x hx).1, ge32_free (h x hx).2 (by decide), ge32_free (h x hx).2 (by decide)⟩
theorem digs_ge {l : List UInt8} (h : digs l = true) : ∀ c ∈ l, 33 ≤ c.toNat := fun c hm => by
  unfold digs at h
  rw [List.all_eq_true] at h
  have := of_decide_eq_true (h c hm)
  omega
theorem num_bytes {n : Int} (h : 0 ≤ n ∧ n ≤ 1000000) : (∀ c ∈ B (numT n), 33 ≤ c.toNat) ∧ B (numT n) ≠ [] := by
  obtain ⟨u, rfl⟩ : ∃ u : Nat, n = u := ⟨n.toNat, by omega⟩
  have e : B (numT (u : Int)) = Lib.decDigits u := by
    unfold numT
    rw [if_pos h, B_mk (Lib.itoa (u : Int)), itoa_nat]
  rw [e]
  exact ⟨digs_ge (dec_facts u).2.1, (dec_facts u).2.2⟩
theorem numRead_numT {n : Int} (h : 0 ≤ n ∧ n ≤ 1000000) : numRead (numT n) = (n, true) := by
  obtain ⟨u, rfl⟩ : ∃ u : Nat, n = u := ⟨n.toNat, by omega⟩
  refine numRead_yes (by omega) ?_
  unfold numT
  rw [if_pos h, B_mk (Lib.itoa (u : Int)), itoa_nat]
/-! ### lines of fields -/
def fl (x : S116) : List UInt8 := B x.f0 ++ (58 :: 32 :: B x.f1)
theorem fieldLines_lineT : ∀ l : List S116, fieldLines l = lineT (l.map fl)
  | [] => rfl
  | x :: r => by
    rw [fieldLines, List.map_cons, lineT, ← fieldLines_lineT r]
    simp [fieldLine, fl, B]
def lenN : List UInt8 := [99, 111, 110, 116, 101, 110, 116, 45, 108, 101, 110, 103, 116, 104]
theorem lenName_B (s : ByteArray) : lenName s = decide (B s = lenN) := by unfold lenName lenN; rw [toList_B]
def fieldOf (line : List UInt8) : Option S116 :=
  if (Lib.cut line [58, 32]).2.2 = true then (if (Lib.cut line [58, 32]).1 = lenN then none else some ⟨Tx (Lib.cut line [58, 32]).1, Tx (Lib.cut line [58, 32]).2.1⟩) else none
def fieldsOf (lines : List (List UInt8)) : List S116 := lines.filterMap fieldOf
theorem cut_fl {a b : List UInt8} (h : (58 : UInt8) ∉ a) : Lib.cut (a ++ (58 :: 32 :: b)) [58, 32] = (a, b, true) := cut_app (c := 58) (r := [32]) h
theorem fieldOf_fl {x : S116} (h : tokB x.f0 = true) (hn : lenName x.f0 = false) : fieldOf (fl x) = some x := by
  have h58 : (58 : UInt8) ∉ B x.f0 := tok_free h (by decide)
  unfold fieldOf fl
  rw [cut_fl h58]
  dsimp only
  rw [if_pos rfl, if_neg (by rw [lenName_B] at hn; exact of_decide_eq_false hn), Tx_B, Tx_B]
theorem fieldOf_len (b : List UInt8) : fieldOf (lenN ++ (58 :: 32 :: b)) = none := by
  unfold fieldOf
  rw [cut_fl (by decide)]
  dsimp only
  rw [if_pos rfl, if_pos rfl]
theorem fieldsOf_fl : ∀ {l : List S116}, (∀ x ∈ l, tokB x.f0 = true ∧ lenName x.f0 = false) → fieldsOf (l.map fl) = l
  | [], _ => rfl
  | x :: r, h => by
    have hx := h x (by simp)
    unfold fieldsOf
    rw [List.map_cons, List.filterMap_cons, fieldOf_fl hx.1 hx.2]
    have := fieldsOf_fl (l := r) (fun y hy => h y (by simp [hy]))
    unfold fieldsOf at this
    simp only [this]
theorem fieldsOf_append (a b : List (List UInt8)) : fieldsOf (a ++ b) = fieldsOf a ++ fieldsOf b := by unfold fieldsOf; rw [List.filterMap_append]
theorem fl_good {x : S116} (h1 : tokB x.f0 = true) (h2 : valB x.f1 = true) : fl x ≠ [] ∧ ∀ c ∈ fl x, 32 ≤ c.toNat := by
  refine ⟨by unfold fl; simp, fun c hc => ?_⟩
  unfold fl at hc
  rcases List.mem_append.1 hc with hc | hc
  · have := tok_bytes h1 c hc; omega
  · rcases List.mem_cons.1 hc with rfl | hc
    · decide
    · rcases List.mem_cons.1 hc with rfl | hc
      · decide
      · exact (val_bytes h2 c hc).1
def lenLine (b : ByteArray) : List UInt8 := lenN ++ (58 :: 32 :: B (numT b.size))
def lenLines (b : ByteArray) : List (List UInt8) := if b.toList = [] then [] else [lenLine b]
theorem lenLine_good {b : ByteArray} (hb : b.size ≤ 1000000) : lenLine b ≠ [] ∧ ∀ c ∈ lenLine b, 32 ≤ c.toNat := by
  refine ⟨by unfold lenLine; simp, fun c hc => ?_⟩
  unfold lenLine at hc
  rcases List.mem_append.1 hc with hc | hc
  · have h : (lenN.all fun c => decide (32 ≤ c.toNat)) = true := by decide
    rw [List.all_eq_true] at h
    exact of_decide_eq_true (h c hc)
  · rcases List.mem_cons.1 hc with rfl | hc
    · decide
    · rcases List.mem_cons.1 hc with rfl | hc
      · decide
      · have := (num_bytes (n := (b.size : Int)) (by omega)).1 c hc; omega
theorem fields_good {l : List S116} (h : fieldsB l = true) : ∀ x ∈ l.map fl, x ≠ [] ∧ ∀ c ∈ x, 32 ≤ c.toNat := by
  obtain ⟨_, h2⟩ := okFs_facts l l 0 h
  intro x hx
  obtain ⟨y, hy, rfl⟩ := List.mem_map.1 hx
  exact fl_good (h2 y hy).1 (h2 y hy).2.1
theorem path_bytes {s : ByteArray} (h : pathB s = true) : (∀ c ∈ B s, 33 ≤ c.toNat ∧ c.toNat ≤ 126) ∧ 1 ≤ s.size := by
  unfold pathB fromB at h
  simp only [Bool.and_eq_true, List.all_eq_true, decide_eq_true_eq] at h
  refine ⟨fun c hm => ?_, by omega⟩
  have := h.2.2 c hm
  omega
/-! ### an answer's text, line by line -/
def respFirst (m : Int) : List UInt8 := [72, 84, 84, 80, 47, 49, 46, 49] ++ (32 :: (B (numT m) ++ [32, 46]))
def respLines (m : Int) (l : List S116) (b : ByteArray) : List (List UInt8) := respFirst m :: (l.map fl ++ [lenN ++ (58 :: 32 :: B (numT b.size))])
theorem respText_lines {m : Int} {l : List S116} {b : ByteArray} (h : respB m l b = true) : respText m l b = Tx (lineT (respLines m l b) ++ (13 :: 10 :: B b)) := by
  apply B_ext
  unfold respText respLines respFirst lenN
  rw [if_pos h, B_Tx, lineT, lineT_append, ← fieldLines_lineT]
  simp only [B_append]
  have : B (linesT l) = fieldLines l := B_mk (fieldLines l)
  rw [this]
  simp [lineT, B]
/-! ### a line of a field -/
def fline (a b : List UInt8) : ByteArray := Tx (a ++ (58 :: 32 :: b))
theorem fline_B {t : ByteArray} {a b : List UInt8} (h : t = fline a b) : B t = a ++ (58 :: 32 :: b) := by rw [h]; exact B_Tx _
theorem fline_size {t : ByteArray} {a b : List UInt8} (h : t = fline a b) : t.size = a.length + 2 + b.length := by
  rw [← B_len, fline_B h, List.length_append, List.length_cons, List.length_cons]; omega
theorem fline_in {t : ByteArray} {a b : List UInt8} (h : t = fline a b) {j : Nat} (hj : j < a.length) (hl : j < (B t).length) : (B t)[j] ∈ a := by
  have e := fline_B h
  simp only [e]
  rw [List.getElem_append_left hj]; exact List.getElem_mem _
theorem fline_58 {t : ByteArray} {a b : List UInt8} (h : t = fline a b) (h1 : a.length < (B t).length) (h2 : a.length + 1 < (B t).length) : (B t)[a.length] = 58 ∧ (B t)[a.length + 1] = 32 := by
  have e := fline_B h
  simp only [e]
  refine ⟨?_, ?_⟩
  · rw [List.getElem_append_right (Nat.le_refl _)]; simp
  · rw [List.getElem_append_right (by omega)]; simp
theorem fline_name {t : ByteArray} {a b : List UInt8} (h : t = fline a b) : t.extract 0 a.length = Tx a := by
  apply B_ext
  rw [B_extract, fline_B h, B_Tx, List.drop_zero, List.take_left]
theorem fline_value {t : ByteArray} {a b : List UInt8} (h : t = fline a b) : t.extract (a.length + 2) t.size = Tx b := by
  apply B_ext
  rw [B_extract, List.take_of_length_le (by rw [B_len]; omega), fline_B h, B_Tx, List.drop_append, List.drop_eq_nil_of_le (by omega), List.nil_append, Nat.add_sub_cancel_left]; rfl
theorem fline_fl (x : S116) : Tx (fl x) = fline (B x.f0) (B x.f1) := rfl
theorem lenN58 : (58 : UInt8) ∉ lenN := by decide
theorem size_zero {s : ByteArray} (h : s.toList = []) : s.size = 0 := by rw [← B_len, ← toList_B, h]; rfl
/-! ### the fields of lines -/
theorem spec_l3Fields_l1 (ls : List ByteArray) (hn : ls.length ≤ 1048576) (hb : ∀ x ∈ ls, x.size ≤ 1048576) (i : Nat) (hi : i < ls.length) (acc : List S116) (ha : acc.length ≤ i) : ∀ (d k j : Nat), ls[i].size - j = d → j ≤ ls[i].size → 2 * d + 3 < k →
    ∃ k' acc', spec_l3Fields.l1 k ls acc i j = spec_l3Fields.l0 k' ls acc' ((i + 1 : Nat) : Int) ∧ k ≤ k' + 2 * d + 3 ∧ (acc' = acc ∨ ∃ x, acc' = acc ++ [x] ∧ x.f0.size ≤ 1048576 ∧ x.f1.size ≤ 1048576) ∧ ∀ a b, ls[i] = fline a b → (58 : UInt8) ∉ a → j ≤ a.length → acc' = if a = lenN then acc else acc ++ [⟨Tx a, Tx b⟩] := by
  have hts := hb _ (List.getElem_mem hi)
  have hiz : i ≤ 1048576 := by omega
  obtain ⟨t, ht⟩ : ∃ t, t = ls[i] := ⟨_, rfl⟩
  rw [← ht] at hts ⊢
  have hrd : rdOf ByteArray.empty ls (i : Int) = t := by rw [ht]; exact rd_B ls i hi
  intro d
  induction d with
  | zero =>
    intro k j hd hj hk
    obtain ⟨k, rfl⟩ := succ_of (show 0 < k by omega)
    simp only [spec_l3Fields.l1]
    rw [if_pos (by omega), if_pos (by omega), hrd, w64 (by omega), if_neg (by omega), w64_n1 hiz]
    refine ⟨k, acc, rfl, by omega, .inl rfl, fun a b h1 h2 h3 => ?_⟩
    have := fline_size h1
    omega
  | succ d ih =>
    intro k j hd hj hk
    obtain ⟨k, rfl⟩ := succ_of (show 1 < k by omega)
    obtain ⟨k, rfl⟩ := succ_of (show 0 < k by omega)
    have hl : j < (B t).length := by rw [B_len]; omega
    have hjz : j ≤ 1048576 := Nat.le_trans hj hts
    simp only [spec_l3Fields.l1]
    rw [if_pos (by omega), if_pos (by omega), hrd, w64_n1 hjz]
    by_cases h2 : j + 1 < t.size
    · have hl2 : j + 1 < (B t).length := by rw [B_len]; omega
      have go : (¬ ((B t)[j] = 58 ∧ (B t)[j + 1] = 32)) → ∃ k' acc', spec_l3Fields.l1 k ls acc i ((j + 1 : Nat) : Int) = spec_l3Fields.l0 k' ls acc' ((i + 1 : Nat) : Int) ∧ k + 1 + 1 ≤ k' + 2 * (d + 1) + 3 ∧ (acc' = acc ∨ ∃ x, acc' = acc ++ [x] ∧ x.f0.size ≤ 1048576 ∧ x.f1.size ≤ 1048576) ∧ ∀ a b, t = fline a b → (58 : UInt8) ∉ a → j ≤ a.length → acc' = if a = lenN then acc else acc ++ [⟨Tx a, Tx b⟩] := by
        intro hno
        obtain ⟨k', acc', e, g1, g2, g3⟩ := ih k (j + 1) (by omega) (by omega) (by omega)
        refine ⟨k', acc', e, by omega, g2, fun a b q1 q2 q3 => g3 a b q1 q2 ?_⟩
        by_cases hq : j = a.length
        · exfalso; subst hq; exact hno (fline_58 q1 hl hl2)
        · omega
      rw [if_pos (by omega), if_pos (by omega), if_pos (by omega), bt_get t j hl]
      by_cases c : (B t)[j] = 58
      · rw [if_pos ((octv (d := 58) (n := 58) rfl).2 c), if_pos (by omega), bt_get t (j + 1) hl2]
        simp only [spec_l3Fields.j2]
        by_cases c2 : (B t)[j + 1] = 32
        · clear go ih
          rw [if_pos (beq_iff_eq.2 ((octv (d := 32) (n := 32) rfl).2 c2)), if_pos (by omega), if_pos (by omega), hrd, if_pos (by omega), if_pos (by omega), w64_n2 hjz, if_pos (by omega), if_pos (by omega), Int.toNat_natCast, Int.toNat_natCast, w64_n1 hiz]
          have hlen : ∀ a b, t = fline a b → (58 : UInt8) ∉ a → j ≤ a.length → j = a.length := fun a b q1 q2 q3 => by
            by_cases hq : j < a.length
            · exfalso; apply q2; rw [← c]; exact fline_in q1 hq hl
            · omega
          by_cases c3 : (t.extract 0 j).toList = ([99, 111, 110, 116, 101, 110, 116, 45, 108, 101, 110, 103, 116, 104] : List UInt8)
          · rw [if_pos c3]
            refine ⟨k, acc, rfl, by omega, .inl rfl, fun a b q1 q2 q3 => ?_⟩
            have := hlen a b q1 q2 q3
            subst this
            rw [fline_name q1, toList_B, B_Tx] at c3
            rw [if_pos (show a = lenN from c3)]
          · rw [if_neg c3, if_pos (by omega)]
            refine ⟨k, _, rfl, by omega, .inr ⟨_, rfl, by dsimp only; rw [ByteArray.size_extract]; omega, by dsimp only; rw [ByteArray.size_extract]; omega⟩, fun a b q1 q2 q3 => ?_⟩
            have := hlen a b q1 q2 q3
            subst this
            rw [fline_name q1, toList_B, B_Tx] at c3
            rw [if_neg (show ¬ a = lenN from c3), fline_name q1, fline_value q1]
        · rw [if_neg (fun h => c2 ((octv (d := 32) (n := 32) rfl).1 (beq_iff_eq.1 h))), w64_n1 hjz]
          exact go (fun h => c2 h.2)
      · rw [if_neg (fun h => c ((octv (d := 58) (n := 58) rfl).1 h))]
        simp only [spec_l3Fields.j2]
        rw [if_neg (by simp), w64_n1 hjz]
        exact go (fun h => c h.1)
    · rw [if_neg (by omega), w64_n1 hiz]
      refine ⟨k + 1, acc, rfl, by omega, .inl rfl, fun a b q1 q2 q3 => ?_⟩
      have := fline_size q1
      omega
theorem spec_l3Fields_l0 (ls : List ByteArray) (hn : ls.length ≤ 1048576) (hb : ∀ x ∈ ls, x.size ≤ 1048576) : ∀ (d k i : Nat) (acc : List S116), ls.length = i + d → acc.length ≤ i → (∀ x ∈ acc, x.f0.size ≤ 1048576 ∧ x.f1.size ≤ 1048576) → d * 2097170 + 4 < k →
    ∃ r, spec_l3Fields.l0 k ls acc i = some r ∧ r.length ≤ ls.length ∧ (∀ x ∈ r, x.f0.size ≤ 1048576 ∧ x.f1.size ≤ 1048576) ∧ ∀ (fs : List S116) (t : List ByteArray), ls.drop i = fs.map (fun x => Tx (fl x)) ++ t → (∀ x ∈ fs, (58 : UInt8) ∉ B x.f0 ∧ lenName x.f0 = false) → (t = [] ∨ ∃ v, t = [fline lenN v]) → r = acc ++ fs := by
  intro d
  induction d with
  | zero =>
    intro k i acc hd ha hx hk
    obtain ⟨k, rfl⟩ := succ_of (show 0 < k by omega)
    simp only [spec_l3Fields.l0]
    rw [if_neg (by omega)]
    refine ⟨acc, rfl, by omega, hx, fun fs t h1 _ _ => ?_⟩
    rw [List.drop_eq_nil_of_le (by omega)] at h1
    have := congrArg List.length h1
    rw [List.length_append, List.length_map] at this
    have h0 : fs = [] := List.eq_nil_of_length_eq_zero (by simp at this; omega)
    rw [h0, List.append_nil]
  | succ d ih =>
    intro k i acc hd ha hx hk
    obtain ⟨k, rfl⟩ := succ_of (show 0 < k by omega)
    have hi : i < ls.length := by omega
    have hts := hb _ (List.getElem_mem hi)
    obtain ⟨k', acc', e, g1, g2, g3⟩ := spec_l3Fields_l1 ls hn hb i hi acc ha ls[i].size k 0 (by omega) (by omega) (by omega)
    have e' : spec_l3Fields.l1 k ls acc i 0 = spec_l3Fields.l0 k' ls acc' ((i + 1 : Nat) : Int) := e
    have hal : acc'.length ≤ i + 1 := by
      rcases g2 with g2 | ⟨x, g2, _⟩
      · rw [g2]; omega
      · rw [g2, List.length_append, List.length_singleton]; omega
    have hk2 : d * 2097170 + 4 < k' := by
      rw [Nat.succ_mul] at hk
      generalize d * 2097170 = D at hk ⊢
      omega
    have hax : ∀ x ∈ acc', x.f0.size ≤ 1048576 ∧ x.f1.size ≤ 1048576 := by
      rcases g2 with g2 | ⟨y, g2, gy⟩ <;> rw [g2]
      · exact hx
      · intro x hx'
        rcases List.mem_append.1 hx' with hx' | hx'
        · exact hx x hx'
        · rw [List.mem_singleton.1 hx']; exact gy
    obtain ⟨r, er, r1, r2, r3⟩ := ih k' (i + 1) acc' (by omega) hal hax hk2
    simp only [spec_l3Fields.l0]
    rw [if_pos (by omega), e', er]
    refine ⟨r, rfl, r1, r2, fun fs t h1 h2 h3 => ?_⟩
    rw [drop_at hi] at h1
    cases fs with
    | nil =>
      rw [List.map_nil, List.nil_append] at h1
      rcases h3 with h3 | ⟨v, h3⟩
      · rw [h3] at h1; cases h1
      · rw [h3] at h1
        injection h1 with h4 h5
        have q := g3 lenN v h4 lenN58 (Nat.zero_le _)
        rw [if_pos rfl] at q
        rw [r3 [] [] (by rw [h5]; rfl) (fun x hx' => by cases hx') (.inl rfl), q]
    | cons x fs =>
      rw [List.map_cons, List.cons_append] at h1
      injection h1 with h4 h5
      have hxx := h2 x (by simp)
      have q := g3 (B x.f0) (B x.f1) h4 hxx.1 (Nat.zero_le _)
      rw [if_neg (by have := hxx.2; rw [lenName_B] at this; exact of_decide_eq_false this), Tx_B, Tx_B] at q
      rw [r3 fs t h5 (fun y hy => h2 y (by simp [hy])) h3, q, List.append_assoc]; rfl
theorem spec_l3Fields_f {k : Nat} {ls : List ByteArray} (hn : ls.length ≤ 1048576) (hb : ∀ x ∈ ls, x.size ≤ 1048576) (hk : 2199042129930 < k) : ∃ r, spec_l3Fields.f k ls = some r ∧ r.length ≤ ls.length ∧ (∀ x ∈ r, x.f0.size ≤ 1048576 ∧ x.f1.size ≤ 1048576) ∧ ∀ (fs : List S116) (t : List ByteArray), ls = fs.map (fun x => Tx (fl x)) ++ t → (∀ x ∈ fs, (58 : UInt8) ∉ B x.f0 ∧ lenName x.f0 = false) → (t = [] ∨ ∃ v, t = [fline lenN v]) → r = fs := by
  obtain ⟨r, e, r1, r2, r3⟩ := spec_l3Fields_l0 ls hn hb ls.length k 0 [] (by omega) (by simp) (fun x hx => by cases hx) (by omega)
  refine ⟨r, e, r1, r2, fun fs t h1 h2 h3 => ?_⟩
  have := r3 fs t h1 h2 h3
  rwa [List.nil_append] at this
/-! ### the parts of a message -/
theorem cut_len (s sep : List UInt8) : (Lib.cut s sep).1.length ≤ s.length ∧ (Lib.cut s sep).2.1.length ≤ s.length := by
  unfold Lib.cut
  split
  · simp only [List.length_take, List.length_drop]; omega
  · simp
theorem strings_Cut_f {s sep : ByteArray} (hs : s.size ≤ 1048576) : strings_Cut.f s sep = some (Tx (Lib.cut (B s) (B sep)).1, Tx (Lib.cut (B s) (B sep)).2.1, (Lib.cut (B s) (B sep)).2.2) := by
  unfold strings_Cut.f
  rw [if_pos (by omega)]; rfl
theorem splitBs_pos (s sep : ByteArray) : 0 < (splitBs s sep).length := by
  unfold splitBs
  cases Lib.countB s sep with
  | zero => simp [Lib.splitB]
  | succ c =>
    unfold Lib.splitB
    split <;> simp
theorem impl_parts_l0 (body : ByteArray) (lines rest : List ByteArray) (h0 : 0 < lines.length) (hnl : lines.length ≤ 10) (hrl : rest.length + 1 = lines.length) (hb : ∀ x ∈ rest, x.size ≤ 1048576) : ∀ (d k i : Nat) (acc : List S116), rest.length = i + d → acc.length ≤ i → (∀ x ∈ acc, x.f0.size ≤ 1048576 ∧ x.f1.size ≤ 1048576) → d < k →
    ∃ f0 r bd ok, impl_parts.l0 k body lines acc rest (rest.length : Int) i = some (f0, r, bd, ok) ∧ ((f0, r, bd, ok) = (⟨#[]⟩, [], ⟨#[]⟩, false) ∨ f0 = lines[0] ∧ bd = body ∧ r.length ≤ 10 ∧ ∀ x ∈ r, x.f0.size ≤ 1048576 ∧ x.f1.size ≤ 1048576) ∧ ∀ (fs : List S116) (t : List ByteArray), rest.drop i = fs.map (fun x => Tx (fl x)) ++ t → (∀ x ∈ fs, (58 : UInt8) ∉ B x.f0 ∧ lenName x.f0 = false) → (t = [] ∨ ∃ v, t = [fline lenN v]) → (f0, r, bd, ok) = (lines[0], acc ++ fs, body, true) := by
  have hr0 : rdOf ByteArray.empty lines 0 = lines[0] := rd_B lines 0 h0
  intro d
  induction d with
  | zero =>
    intro k i acc hd ha hx hk
    obtain ⟨k, rfl⟩ := succ_of (show 0 < k by omega)
    simp only [impl_parts.l0]
    rw [if_neg (by omega), if_pos (by omega), hr0]
    refine ⟨_, _, _, _, rfl, .inr ⟨rfl, rfl, by omega, hx⟩, fun fs t h1 _ _ => ?_⟩
    rw [List.drop_eq_nil_of_le (by omega)] at h1
    have := congrArg List.length h1
    rw [List.length_append, List.length_map] at this
    have h0 : fs = [] := List.eq_nil_of_length_eq_zero (by simp at this; omega)
    rw [h0, List.append_nil]
  | succ d ih =>
    intro k i acc hd ha hx hk
    obtain ⟨k, rfl⟩ := succ_of (show 0 < k by omega)
    have hi : i < rest.length := by omega
    have hts := hb _ (List.getElem_mem hi)
    have hc := cut_len (B rest[i]) [58, 32]
    rw [B_len] at hc
    simp only [impl_parts.l0]
    rw [if_pos (by omega), if_pos (by omega), if_pos (by omega), rd_B rest i hi, strings_Cut_f hts, Option.bind_some, nat_round (n := rest.length) hi (by omega), w64 (n := (lines.length : Int) - 2) (by omega)]
    dsimp only
    rw [show B (⟨#[58, 32]⟩ : ByteArray) = [58, 32] from rfl]
    have push : ∀ x : S116, x.f0.size ≤ 1048576 → x.f1.size ≤ 1048576 → ∃ f0 r bd ok, impl_parts.l0 k body lines (acc ++ [x]) rest (rest.length : Int) ((i + 1 : Nat) : Int) = some (f0, r, bd, ok) ∧ ((f0, r, bd, ok) = (⟨#[]⟩, [], ⟨#[]⟩, false) ∨ f0 = lines[0] ∧ bd = body ∧ r.length ≤ 10 ∧ ∀ x ∈ r, x.f0.size ≤ 1048576 ∧ x.f1.size ≤ 1048576) ∧ ∀ (fs : List S116) (t : List ByteArray), rest.drop (i + 1) = fs.map (fun x => Tx (fl x)) ++ t → (∀ x ∈ fs, (58 : UInt8) ∉ B x.f0 ∧ lenName x.f0 = false) → (t = [] ∨ ∃ v, t = [fline lenN v]) → (f0, r, bd, ok) = (lines[0], (acc ++ [x]) ++ fs, body, true) := fun x hx0 hx1 =>
      ih k (i + 1) (acc ++ [x]) (by omega) (by simp; omega) (fun y hy => by
        rcases List.mem_append.1 hy with hy | hy
        · exact hx y hy
        · rw [List.mem_singleton.1 hy]; exact ⟨hx0, hx1⟩) (by omega)
    have hcut : ∀ a b, rest[i] = fline a b → (58 : UInt8) ∉ a → Lib.cut (B rest[i]) [58, 32] = (a, b, true) := fun a b q1 q2 => by rw [fline_B q1]; exact cut_fl q2
    by_cases c : (Lib.cut (B rest[i]) [58, 32]).2.2 = true
    · rw [if_pos c]
      have pp := push ⟨Tx (Lib.cut (B rest[i]) [58, 32]).1, Tx (Lib.cut (B rest[i]) [58, 32]).2.1⟩ (by rw [Tx_size]; omega) (by rw [Tx_size]; omega)
      have fin : (¬ ((i : Int) = (lines.length : Int) - 2 ∧ (Tx (Lib.cut (B rest[i]) [58, 32]).1).toList = ([99, 111, 110, 116, 101, 110, 116, 45, 108, 101, 110, 103, 116, 104] : List UInt8))) → ∃ f0 r bd ok, impl_parts.l0 k body lines (acc ++ [⟨Tx (Lib.cut (B rest[i]) [58, 32]).1, Tx (Lib.cut (B rest[i]) [58, 32]).2.1⟩]) rest (rest.length : Int) ((i + 1 : Nat) : Int) = some (f0, r, bd, ok) ∧ ((f0, r, bd, ok) = (⟨#[]⟩, [], ⟨#[]⟩, false) ∨ f0 = lines[0] ∧ bd = body ∧ r.length ≤ 10 ∧ ∀ x ∈ r, x.f0.size ≤ 1048576 ∧ x.f1.size ≤ 1048576) ∧ ∀ (fs : List S116) (t : List ByteArray), rest.drop i = fs.map (fun x => Tx (fl x)) ++ t → (∀ x ∈ fs, (58 : UInt8) ∉ B x.f0 ∧ lenName x.f0 = false) → (t = [] ∨ ∃ v, t = [fline lenN v]) → (f0, r, bd, ok) = (lines[0], acc ++ fs, body, true) := by
        intro hno
        obtain ⟨f0, r, bd, ok, e, g1, g2⟩ := pp
        refine ⟨f0, r, bd, ok, e, g1, fun fs t h1 h2 h3 => ?_⟩
        rw [drop_at hi] at h1
        cases fs with
        | nil =>
          exfalso
          rw [List.map_nil, List.nil_append] at h1
          rcases h3 with h3 | ⟨v, h3⟩
          · rw [h3] at h1; cases h1
          · rw [h3] at h1
            injection h1 with h4 h5
            have hl5 := congrArg List.length h5
            rw [List.length_drop, List.length_nil] at hl5
            refine hno ⟨by omega, ?_⟩
            rw [hcut lenN v h4 lenN58, toList_B, B_Tx]; rfl
        | cons x fs =>
          rw [List.map_cons, List.cons_append] at h1
          injection h1 with h4 h5
          have hxx := h2 x (by simp)
          have q := hcut (B x.f0) (B x.f1) h4 hxx.1
          rw [g2 fs t h5 (fun y hy => h2 y (by simp [hy])) h3, q, Tx_B, Tx_B, List.append_assoc]; rfl
      by_cases c2 : (i : Int) = (lines.length : Int) - 2
      · rw [if_pos c2]
        by_cases c3 : (Tx (Lib.cut (B rest[i]) [58, 32]).1).toList = ([99, 111, 110, 116, 101, 110, 116, 45, 108, 101, 110, 103, 116, 104] : List UInt8)
        · rw [if_pos c3, if_pos (by omega), hr0]
          refine ⟨_, _, _, _, rfl, .inr ⟨rfl, rfl, by omega, hx⟩, fun fs t h1 h2 h3 => ?_⟩
          rw [drop_at hi] at h1
          cases fs with
          | nil => rw [List.append_nil]
          | cons x fs =>
            exfalso
            rw [List.map_cons, List.cons_append] at h1
            injection h1 with h4 h5
            have hxx := h2 x (by simp)
            have q := hcut (B x.f0) (B x.f1) h4 hxx.1
            rw [q, Tx_B, toList_B] at c3
            have := hxx.2
            rw [lenName_B] at this
            exact of_decide_eq_false this c3
        · rw [if_neg c3, if_pos (by omega)]
          exact fin (fun h => c3 h.2)
      · rw [if_neg c2, if_pos (by omega)]
        exact fin (fun h => c2 h.1)
    · rw [if_neg c]
      refine ⟨_, _, _, _, rfl, .inl rfl, fun fs t h1 h2 h3 => ?_⟩
      exfalso
      rw [drop_at hi] at h1
      cases fs with
      | nil =>
        rw [List.map_nil, List.nil_append] at h1
        rcases h3 with h3 | ⟨v, h3⟩
        · rw [h3] at h1; cases h1
        · rw [h3] at h1
          injection h1 with h4 h5
          rw [hcut lenN v h4 lenN58] at c; exact c rfl
      | cons x fs =>
        rw [List.map_cons, List.cons_append] at h1
        injection h1 with h4 h5
        rw [hcut (B x.f0) (B x.f1) h4 (h2 x (by simp)).1] at c; exact c rfl
theorem impl_parts_f {k : Nat} {s : ByteArray} (hs : s.size ≤ 1048576) (hk : 20 < k) : ∃ f0 r bd ok, impl_parts.f k s = some (f0, r, bd, ok) ∧ f0.size ≤ 1048576 ∧ bd.size ≤ 1048576 ∧ r.length ≤ 10 ∧ (∀ x ∈ r, x.f0.size ≤ 1048576 ∧ x.f1.size ≤ 1048576) ∧
    ∀ (x0 : List UInt8) (fs : List S116) (lt : List (List UInt8)) (body : List UInt8), GoodL (x0 :: (fs.map fl ++ lt)) → B s = lineT (x0 :: (fs.map fl ++ lt)) ++ (13 :: 10 :: body) → fs.length ≤ 8 → (∀ x ∈ fs, (58 : UInt8) ∉ B x.f0 ∧ lenName x.f0 = false) → (lt = [] ∨ ∃ v, lt = [lenN ++ (58 :: 32 :: v)]) → (f0, r, bd, ok) = (Tx x0, fs, Tx body, true) := by
  have hc := cut_len (B s) [13, 10, 13, 10]
  rw [B_len] at hc
  have hhs : (Tx (Lib.cut (B s) [13, 10, 13, 10]).1).size ≤ 1048576 := by rw [Tx_size]; omega
  obtain ⟨hd, hhd⟩ : ∃ hd, hd = Tx (Lib.cut (B s) [13, 10, 13, 10]).1 := ⟨_, rfl⟩
  have hpos := splitBs_pos hd ⟨#[13, 10]⟩
  have hsm := splitBs_small hd.size hd ⟨#[13, 10]⟩ (Nat.le_refl _) (by show 1 ≤ 2; omega)
  have hln := splitBs_len hd ⟨#[13, 10]⟩ (by show 1 ≤ 2; omega)
  have comp : ∀ (x0 : List UInt8) (fs : List S116) (lt : List (List UInt8)) (body : List UInt8), GoodL (x0 :: (fs.map fl ++ lt)) → B s = lineT (x0 :: (fs.map fl ++ lt)) ++ (13 :: 10 :: body) → Lib.cut (B s) [13, 10, 13, 10] = (joinT (x0 :: (fs.map fl ++ lt)), body, true) ∧ splitBs hd ⟨#[13, 10]⟩ = (x0 :: (fs.map fl ++ lt)).map Tx := fun x0 fs lt body hg hB => by
    have e := cut_head body (l := x0 :: (fs.map fl ++ lt)) (by simp) hg
    rw [← hB] at e
    refine ⟨e, ?_⟩
    rw [hhd, e]
    exact split_join (by simp) hg
  unfold impl_parts.f
  rw [strings_Cut_f hs, Option.bind_some]
  dsimp only
  rw [show B (⟨#[13, 10, 13, 10]⟩ : ByteArray) = [13, 10, 13, 10] from rfl, ← hhd]
  unfold strings_Split.f
  rw [if_pos ⟨by rw [hhd]; omega, by show 1 ≤ 2; omega⟩, Option.bind_some]
  obtain ⟨k, rfl⟩ := succ_of (show 0 < k by omega)
  have rej : ∀ (p : Prop), ∃ f0 r bd ok, (some ((⟨#[]⟩ : ByteArray), ([] : List S116), (⟨#[]⟩ : ByteArray), false)) = some (f0, r, bd, ok) ∧ f0.size ≤ 1048576 ∧ bd.size ≤ 1048576 ∧ r.length ≤ 10 ∧ (∀ x ∈ r, x.f0.size ≤ 1048576 ∧ x.f1.size ≤ 1048576) := fun _ => ⟨_, _, _, _, rfl, Nat.zero_le _, Nat.zero_le _, Nat.zero_le _, fun x hx => by cases hx⟩
  by_cases c : (Lib.cut (B s) [13, 10, 13, 10]).2.2 = true
  · rw [if_pos c]
    simp only [impl_parts.j0]
    by_cases c2 : (splitBs hd ⟨#[13, 10]⟩).length > 10
    · rw [if_pos (decide_eq_true (by omega))]
      refine ⟨_, _, _, _, rfl, Nat.zero_le _, Nat.zero_le _, Nat.zero_le _, fun x hx => (by cases hx), fun x0 fs lt body hg hB hf _ hlt => ?_⟩
      exfalso
      rw [(comp x0 fs lt body hg hB).2, List.length_map, List.length_cons, List.length_append, List.length_map] at c2
      rcases hlt with h | ⟨v, h⟩ <;> rw [h] at c2 <;> simp at c2 <;> omega
    · rw [if_neg (by rw [decide_eq_false (by omega)]; simp), if_pos (by omega), Option.bind_some]
      obtain ⟨f0, r, bd, ok, e, g1, g2⟩ := impl_parts_l0 (Tx (Lib.cut (B s) [13, 10, 13, 10]).2.1) (splitBs hd ⟨#[13, 10]⟩) ((splitBs hd ⟨#[13, 10]⟩).drop 1) hpos (by omega) (by rw [List.length_drop]; omega) (fun x hx => by have := hsm x (List.mem_of_mem_drop hx); rw [hhd] at this; omega) ((splitBs hd ⟨#[13, 10]⟩).drop 1).length k 0 [] (by omega) (by simp) (fun x hx => by cases hx) (by rw [List.length_drop]; omega)
      have e' : impl_parts.l0 k (Tx (Lib.cut (B s) [13, 10, 13, 10]).2.1) (splitBs hd ⟨#[13, 10]⟩) [] ((splitBs hd ⟨#[13, 10]⟩).drop 1) (((splitBs hd ⟨#[13, 10]⟩).drop 1).length : Int) 0 = some (f0, r, bd, ok) := e
      refine ⟨f0, r, bd, ok, e', ?_⟩
      have hb : f0.size ≤ 1048576 ∧ bd.size ≤ 1048576 ∧ r.length ≤ 10 ∧ ∀ x ∈ r, x.f0.size ≤ 1048576 ∧ x.f1.size ≤ 1048576 := by
        rcases g1 with g1 | ⟨g1, g2, g3, g4⟩
        · injection g1 with a1 a2
          injection a2 with a2 a3
          injection a3 with a3 a4
          rw [a1, a2, a3]
          exact ⟨Nat.zero_le _, Nat.zero_le _, Nat.zero_le _, fun x hx => by cases hx⟩
        · refine ⟨?_, ?_, g3, g4⟩
          · rw [g1]; exact Nat.le_trans (hsm _ (List.getElem_mem hpos)) (by rw [hhd]; exact hhs)
          · rw [g2, Tx_size]; omega
      refine ⟨hb.1, hb.2.1, hb.2.2.1, hb.2.2.2, fun x0 fs lt body hg hB hf hfs hlt => ?_⟩
      obtain ⟨q1, q2⟩ := comp x0 fs lt body hg hB
      have h0 : (splitBs hd ⟨#[13, 10]⟩)[0] = Tx x0 := by simp only [q2]; rfl
      have h1 : ((splitBs hd ⟨#[13, 10]⟩).drop 1).drop 0 = fs.map (fun x => Tx (fl x)) ++ lt.map Tx := by
        rw [q2, List.drop_zero, List.map_cons, List.drop_succ_cons, List.drop_zero, List.map_append, List.map_map]; rfl
      have := g2 fs (lt.map Tx) h1 hfs (by
        rcases hlt with h | ⟨v, h⟩
        · left; rw [h]; rfl
        · right; exact ⟨v, by rw [h]; rfl⟩)
      rw [this, h0, q1, List.nil_append]
  · rw [if_neg c]
    simp only [impl_parts.j0]
    rw [if_pos trivial]
    refine ⟨_, _, _, _, rfl, Nat.zero_le _, Nat.zero_le _, Nat.zero_le _, fun x hx => (by cases hx), fun x0 fs lt body hg hB hf _ hlt => ?_⟩
    exfalso
    rw [(comp x0 fs lt body hg hB).1] at c
    exact c rfl
theorem okF_names {l : List S116} (h : fieldsB l = true) : ∀ x ∈ l, (58 : UInt8) ∉ B x.f0 ∧ lenName x.f0 = false := fun x hx => by
  obtain ⟨_, g⟩ := okFs_facts l l 0 h
  exact ⟨tok_free (g x hx).1 (by decide), (g x hx).2.2⟩
theorem lenLines_or (b : ByteArray) : lenLines b = [] ∨ ∃ v, lenLines b = [lenN ++ (58 :: 32 :: v)] := by
  unfold lenLines
  split
  · exact .inl rfl
  · exact .inr ⟨_, rfl⟩
/-! ### an answer's text, back -/
theorem respB_of {m : Int} {l : List S116} {b s : ByteArray} (h : respText m l b = s) (hz : 0 < s.size) : respB m l b = true := by
  unfold respText at h
  by_cases c : respB m l b = true
  · exact c
  · rw [if_neg c] at h
    rw [← h] at hz
    exact absurd hz (by decide)
def rejR : Int × List S116 × ByteArray × Bool := (0, [], ⟨#[]⟩, false)
def finR (s : ByteArray) (m : Int) (l : List S116) (b : ByteArray) : Int × List S116 × ByteArray × Bool := if respText m l b = s then (m, l, b, true) else rejR
theorem resp_lines {s : ByteArray} {m : Int} {l : List S116} {b : ByteArray} (hq : respB m l b = true) (hr : respText m l b = s) : B s = lineT (respLines m l b) ++ (13 :: 10 :: B b) := by
  rw [← hr, respText_lines hq, B_Tx]
def httpA : List UInt8 := [72, 84, 84, 80, 47, 49, 46, 49]
theorem resp_words {m : Int} (h : 100 ≤ m ∧ m ≤ 599) : splitBs (Tx (respFirst m)) ⟨#[32]⟩ = [Tx httpA, numT m, Tx [46]] := by
  have e : Tx (respFirst m) = Tx httpA ++ ((⟨#[32]⟩ : ByteArray) ++ (numT m ++ ((⟨#[32]⟩ : ByteArray) ++ Tx [46]))) := by
    apply B_ext
    simp only [B_append, B_Tx]
    rfl
  have h1 : (32 : UInt8) ∉ B (Tx httpA) := by rw [B_Tx]; decide
  have h2 : (32 : UInt8) ∉ B (numT m) := fun hc => absurd ((num_bytes (n := m) (by omega)).1 _ hc) (by decide)
  rw [e, splitBs_app (c := 32) (r := []) rfl h1, splitBs_app (c := 32) (r := []) rfl h2, splitBs_free (c := 32) (r := []) rfl (by rw [B_Tx]; decide)]
theorem respFirst_good {m : Int} (h : 100 ≤ m ∧ m ≤ 599) : respFirst m ≠ [] ∧ ∀ c ∈ respFirst m, 32 ≤ c.toNat := by
  refine ⟨by unfold respFirst; simp, fun c hc => ?_⟩
  unfold respFirst at hc
  rcases List.mem_append.1 hc with hc | hc
  · have h : (httpA.all fun c => decide (32 ≤ c.toNat)) = true := by decide
    rw [List.all_eq_true] at h
    exact of_decide_eq_true (h c hc)
  · rcases List.mem_cons.1 hc with rfl | hc
    · decide
    · rcases List.mem_append.1 hc with hc | hc
      · have := (num_bytes (n := m) (by omega)).1 c hc; omega
      · have h : (([32, 46] : List UInt8).all fun c => decide (32 ≤ c.toNat)) = true := by decide
        rw [List.all_eq_true] at h
        exact of_decide_eq_true (h c hc)
theorem respLines_good {m : Int} {l : List S116} {b : ByteArray} (h : respB m l b = true) : GoodL (respLines m l b) := by
  obtain ⟨h1, h2, h3⟩ := respB_facts h
  refine goodL_of fun x hx => ?_
  rcases List.mem_cons.1 hx with rfl | hx
  · exact respFirst_good h1
  · rcases List.mem_append.1 hx with hx | hx
    · exact fields_good h3 x hx
    · rw [List.mem_singleton.1 hx]; exact lenLine_good (b := b) (by omega)
/-! ### RespRead -/
theorem spec_RespRead_f {k : Nat} {s : ByteArray} (hs : s.size ≤ 1048576) (hk : 2199042129990 < k) : ∃ r, spec_RespRead.f k s = some r ∧ (r = rejR ∨ ∃ m l b, r = (m, l, b, true) ∧ respText m l b = s ∧ 0 < s.size ∧ l.length ≤ 1048576) ∧ ∀ m l b, respB m l b = true → respText m l b = s → r = (m, l, b, true) := by
  obtain ⟨ls, e, h1, h2, h3, h4, h5, h6⟩ := spec_l3Head_f (k := k) hs (by omega)
  have comp : ∀ m l b, respB m l b = true → respText m l b = s → ls = (respLines m l b).map Tx ∧ e = (((lineT (respLines m l b)).length + 2 : Nat) : Int) := fun m l b hq hr => h6 _ _ (respLines_good hq) (resp_lines hq hr)
  unfold spec_RespRead.f
  rw [h1, Option.bind_some]
  dsimp only
  obtain ⟨k, rfl⟩ := succ_of (show 0 < k by omega)
  by_cases c : e < 0
  · rw [if_pos c]
    simp only [spec_RespRead.j0]
    rw [if_pos trivial]
    exact ⟨_, rfl, .inl rfl, fun m l b hq hr => by have := (comp m l b hq hr).2; omega⟩
  · rw [if_neg c]
    simp only [spec_RespRead.j0]
    obtain ⟨n, rfl⟩ : ∃ n : Nat, e = n := ⟨e.toNat, by omega⟩
    by_cases c2 : ls.length = 0
    · rw [if_pos (beq_iff_eq.2 (by omega))]
      refine ⟨_, rfl, .inl rfl, fun m l b hq hr => ?_⟩
      rw [(comp m l b hq hr).1] at c2
      simp [respLines] at c2
    · have hpos : 0 < ls.length := by omega
      have h0 : rdOf ByteArray.empty ls 0 = ls[0] := rd_B ls 0 hpos
      have hz0 := h3 _ (List.getElem_mem hpos)
      rw [if_neg (fun h => c2 (by have := beq_iff_eq.1 h; omega)), if_pos (by omega), h0, spec_l3Words_f (by omega) (by omega), Option.bind_some]
      have hsm := splitBs_small (ls[0]).size ls[0] ⟨#[32]⟩ (Nat.le_refl _) (by show 1 ≤ 1; omega)
      have cw : ∀ m l b, respB m l b = true → respText m l b = s → splitBs ls[0] ⟨#[32]⟩ = [Tx httpA, numT m, Tx [46]] := fun m l b hq hr => by
        have q := (comp m l b hq hr).1
        have q0 : ls[0] = Tx (respFirst m) := by simp only [q]; rfl
        rw [q0]; exact resp_words (respB_facts hq).1
      by_cases c3 : (splitBs ls[0] ⟨#[32]⟩).length = 3
      · have h1w : rdOf ByteArray.empty (splitBs ls[0] ⟨#[32]⟩) 1 = (splitBs ls[0] ⟨#[32]⟩)[1] := rd_B _ 1 (by omega)
        obtain ⟨fs, ef, f1, f2, f3⟩ := spec_l3Fields_f (k := k) (ls := ls.drop 1) (by rw [List.length_drop]; omega) (fun x hx => by have := h3 x (List.mem_of_mem_drop hx); omega) (by omega)
        rw [List.length_drop] at f1
        rw [if_pos (by omega), if_pos (by omega), h1w, spec_NumRead_f (by omega), Option.bind_some, if_pos (by omega), ef, Option.bind_some, if_pos (by omega), if_pos h4, Int.toNat_natCast, spec_RespText_f (K := 1048576) (by omega) ⟨by omega, f2⟩ (by omega), Option.bind_some]
        refine ⟨finR s (numRead (splitBs ls[0] ⟨#[32]⟩)[1]).1 fs (s.extract n s.size), ?_, ?_, fun m l b hq hr => ?_⟩
        · unfold finR
          by_cases c4 : respText (numRead (splitBs ls[0] ⟨#[32]⟩)[1]).1 fs (s.extract n s.size) = s
          · rw [if_pos ((toList_iff _ _).2 c4), if_pos c4]
          · rw [if_neg (fun h => c4 (toList_inj h)), if_neg c4]; rfl
        · unfold finR
          by_cases c4 : respText (numRead (splitBs ls[0] ⟨#[32]⟩)[1]).1 fs (s.extract n s.size) = s
          · rw [if_pos c4]; exact .inr ⟨_, _, _, rfl, c4, by omega, by omega⟩
          · rw [if_neg c4]; exact .inl rfl
        · obtain ⟨q1, q2⟩ := comp m l b hq hr
          obtain ⟨g1, g2, g3⟩ := respB_facts hq
          have qw := cw m l b hq hr
          have w1 : (splitBs ls[0] ⟨#[32]⟩)[1] = numT m := by simp only [qw]; rfl
          have qf : fs = l := f3 l [Tx (lenLine b)] (by rw [q1]; unfold respLines; rw [List.map_cons, List.drop_succ_cons, List.drop_zero, List.map_append, List.map_map]; rfl) (okF_names g3) (.inr ⟨B (numT b.size), rfl⟩)
          have qb : s.extract n s.size = b := by
            apply B_ext
            have hn : n = (lineT (respLines m l b)).length + 2 := by omega
            rw [B_extract, List.take_of_length_le (by rw [B_len]; omega), resp_lines hq hr, hn, List.drop_append, List.drop_eq_nil_of_le (by omega), List.nil_append, Nat.add_sub_cancel_left]; rfl
          rw [w1, qf, qb, numRead_numT (by omega)]
          unfold finR
          rw [if_pos hr]
      · rw [if_neg (by omega)]
        refine ⟨_, rfl, .inl rfl, fun m l b hq hr => ?_⟩
        rw [cw m l b hq hr] at c3
        exact absurd rfl c3
theorem impl_RespRead_f {k : Nat} {s : ByteArray} (hs : s.size ≤ 1048576) (hk : 5243000 < k) : ∃ r, impl_RespRead.f k s = some r ∧ (r = rejR ∨ ∃ m l b, r = (m, l, b, true) ∧ respText m l b = s ∧ 0 < s.size ∧ l.length ≤ 1048576) ∧ ∀ m l b, respB m l b = true → respText m l b = s → r = (m, l, b, true) := by
  obtain ⟨f0, r, bd, ok, e, h1, h2, h3, h4, h5⟩ := impl_parts_f (k := k) hs (by omega)
  have comp : ∀ m l b, respB m l b = true → respText m l b = s → (f0, r, bd, ok) = (Tx (respFirst m), l, b, true) := fun m l b hq hr => by
    obtain ⟨g1, g2, g3⟩ := respB_facts hq
    have := h5 (respFirst m) l [lenLine b] (B b) (respLines_good hq) (resp_lines hq hr) (fieldsB_lines g3).1 (okF_names g3) (.inr ⟨B (numT b.size), rfl⟩)
    rw [this, Tx_B]
  have hsm := splitBs_small f0.size f0 ⟨#[32]⟩ (Nat.le_refl _) (by show 1 ≤ 1; omega)
  unfold impl_RespRead.f
  rw [e, Option.bind_some]
  dsimp only
  unfold strings_Split.f
  rw [if_pos ⟨by omega, by show 1 ≤ 1; omega⟩, Option.bind_some]
  obtain ⟨k, rfl⟩ := succ_of (show 0 < k by omega)
  cases ok with
  | false =>
    rw [if_neg (by simp)]
    simp only [impl_RespRead.j0]
    rw [if_pos trivial]
    exact ⟨_, rfl, .inl rfl, fun m l b hq hr => by have := comp m l b hq hr; cases this⟩
  | true =>
    rw [if_pos rfl]
    simp only [impl_RespRead.j0]
    have cw : ∀ m l b, respB m l b = true → respText m l b = s → splitBs f0 ⟨#[32]⟩ = [Tx httpA, numT m, Tx [46]] ∧ r = l ∧ bd = b := fun m l b hq hr => by
      have q := comp m l b hq hr
      injection q with q1 q2
      injection q2 with q2 q3
      injection q3 with q3 q4
      exact ⟨by rw [q1]; exact resp_words (respB_facts hq).1, q2, q3⟩
    by_cases c3 : (splitBs f0 ⟨#[32]⟩).length = 3
    · have h1w : rdOf ByteArray.empty (splitBs f0 ⟨#[32]⟩) 1 = (splitBs f0 ⟨#[32]⟩)[1] := rd_B _ 1 (by omega)
      rw [if_neg (by simp [c3]), if_pos (by omega), h1w, impl_NumRead_f, Option.bind_some]
      by_cases c0 : s.toList = []
      · rw [if_pos c0]
        refine ⟨_, rfl, .inl rfl, fun m l b hq hr => ?_⟩
        exfalso
        have hz := size_zero c0
        rw [← B_len, resp_lines hq hr, List.length_append, List.length_cons] at hz
        omega
      · have hz : s.size ≠ 0 := fun h => c0 (by rw [toList_B]; exact List.eq_nil_of_length_eq_zero (by rw [B_len]; exact h))
        rw [if_neg c0, impl_RespText_f (K := 1048576) (by omega) ⟨by omega, h4⟩ (by omega), Option.bind_some]
        refine ⟨finR s (numRead (splitBs f0 ⟨#[32]⟩)[1]).1 r bd, ?_, ?_, fun m l b hq hr => ?_⟩
        · unfold finR
          by_cases c4 : respText (numRead (splitBs f0 ⟨#[32]⟩)[1]).1 r bd = s
          · rw [if_pos ((toList_iff _ _).2 c4), if_pos c4]
          · rw [if_neg (fun h => c4 (toList_inj h)), if_neg c4]; rfl
        · unfold finR
          by_cases c4 : respText (numRead (splitBs f0 ⟨#[32]⟩)[1]).1 r bd = s
          · rw [if_pos c4]; exact .inr ⟨_, _, _, rfl, c4, by omega, by omega⟩
          · rw [if_neg c4]; exact .inl rfl
        · obtain ⟨g1, g2, g3⟩ := respB_facts hq
          obtain ⟨qw, q2, q3⟩ := cw m l b hq hr
          have w1 : (splitBs f0 ⟨#[32]⟩)[1] = numT m := by simp only [qw]; rfl
          rw [w1, q2, q3, numRead_numT (by omega)]
          unfold finR
          rw [if_pos hr]
    · rw [if_pos (by simpa using fun h => c3 (by omega))]
      refine ⟨_, rfl, .inl rfl, fun m l b hq hr => ?_⟩
      rw [(cw m l b hq hr).1] at c3
      exact absurd rfl c3
/-- Both read the same. -/
theorem RespRead_same {k1 k2 : Nat} {s : ByteArray} (hs : s.size ≤ 1048576) (h1 : 2199042129990 < k1) (h2 : 5243000 < k2) : ∃ r, spec_RespRead.f k1 s = some r ∧ impl_RespRead.f k2 s = some r ∧ (r = rejR ∨ ∃ m l b, r = (m, l, b, true) ∧ respText m l b = s ∧ 0 < s.size ∧ l.length ≤ 1048576) ∧ ∀ m l b, respB m l b = true → respText m l b = s → r = (m, l, b, true) := by
  obtain ⟨r, e, a1, a2⟩ := spec_RespRead_f hs h1
  obtain ⟨r', e', b1, b2⟩ := impl_RespRead_f hs h2
  have heq : r' = r := by
    rcases b1 with b1 | ⟨m, l, b, b1, hr, hz, _⟩
    · rcases a1 with a1 | ⟨m, l, b, a1, hr, hz, _⟩
      · rw [a1, b1]
      · rw [a1]; exact b2 m l b (respB_of hr hz) hr
    · rw [b1]; exact (a2 m l b (respB_of hr hz) hr).symm
  exact ⟨r, e, by rw [← heq]; exact e', a1, a2⟩
theorem fieldsB_SmallF {l : List S116} (h : fieldsB l = true) : SmallF 100 l := by
  obtain ⟨_, h2⟩ := okFs_facts l l 0 h
  have h1 := (fieldsB_lines h).1
  exact ⟨by omega, fun x hx => ⟨by have := (tok_size (h2 x hx).1).2; omega, by have := (val_size (h2 x hx).2.1).2; omega⟩⟩
theorem respText_size (m : Int) (l : List S116) (b : ByteArray) : (respText m l b).size ≤ 2000 := by
  unfold respText
  split
  · rename_i h
    obtain ⟨h1, h2, h3⟩ := respB_facts h
    obtain ⟨h4, h5⟩ := fieldsB_lines h3
    have n1 := numT_size m
    have n2 := numT_size b.size
    have n3 := linesT_size l
    have s1 : (⟨#[72, 84, 84, 80, 47, 49, 46, 49, 32]⟩ : ByteArray).size = 9 := rfl
    have s2 : (⟨#[32, 46, 13, 10]⟩ : ByteArray).size = 4 := rfl
    have s3 : (⟨#[99, 111, 110, 116, 101, 110, 116, 45, 108, 101, 110, 103, 116, 104, 58, 32]⟩ : ByteArray).size = 16 := rfl
    have s4 : (⟨#[13, 10, 13, 10]⟩ : ByteArray).size = 4 := rfl
    simp only [ByteArray.size_append, s1, s2, s3, s4]; omega
  · exact Nat.zero_le _
/-! ### ObjText -/
def valLines : List ByteArray → List UInt8
  | [] => []
  | v :: r => B v ++ (10 :: valLines r)
def objBytes (p : ByteArray) (vs : List ByteArray) (m : Int) (l : List S116) (b : ByteArray) (t : Int) : List UInt8 :=
  [111, 98, 106, 32] ++ (B p ++ (32 :: (B (numT t) ++ (32 :: (B (numT (vs.length : Int)) ++ (10 :: (valLines vs ++ B (respText m l b))))))))
def objText (p : ByteArray) (ns vs : List ByteArray) (m : Int) (l : List S116) (b : ByteArray) (t : Int) : ByteArray := if objB p ns vs m l b t = true then Tx (objBytes p vs m l b t) else ⟨#[]⟩
theorem ObjText_l0 {K : Nat} (hK : K ≤ 1048576) (p : ByteArray) (ns vs : List ByteArray) (m : Int) (l : List S116) (b : ByteArray) (t : Int) (hv : vs.length ≤ 4) (hx : ∀ v ∈ vs, v.size ≤ 60) (hl : SmallF K l) : ∀ (d k i : Nat) (acc : ByteArray), vs.length = i + d → acc.size + 100 * d ≤ 100000 → d + 5 * K + 60 < k →
    spec_ObjText.l0 k acc i p ns vs m l b t = some (acc ++ Tx (valLines (vs.drop i) ++ B (respText m l b))) ∧ impl_ObjText.l0 k acc vs (vs.length : Int) i p ns vs m l b t = some (acc ++ Tx (valLines (vs.drop i) ++ B (respText m l b))) := by
  have hz := respText_size m l b
  intro d
  induction d with
  | zero =>
    intro k i acc hd ha hk
    obtain ⟨k, rfl⟩ := succ_of (show 0 < k by omega)
    have e : acc ++ Tx (valLines (vs.drop i) ++ B (respText m l b)) = acc ++ respText m l b := by
      rw [List.drop_eq_nil_of_le (by omega)]
      show acc ++ Tx (B (respText m l b)) = _
      rw [Tx_B]
    simp only [spec_ObjText.l0, impl_ObjText.l0]
    rw [if_neg (by omega), if_neg (by omega), spec_RespText_f (K := K) (by omega) hl (by omega), impl_RespText_f (K := K) (by omega) hl (by omega), Option.bind_some, if_pos (by omega), e]
    exact ⟨rfl, rfl⟩
  | succ d ih =>
    intro k i acc hd ha hk
    obtain ⟨k, rfl⟩ := succ_of (show 0 < k by omega)
    have hlt : i < vs.length := by omega
    have hs := hx _ (List.getElem_mem hlt)
    have s1 : (⟨#[10]⟩ : ByteArray).size = 1 := rfl
    have e1 : (acc ++ vs[i]) ++ (⟨#[10]⟩ : ByteArray) = acc ++ (vs[i] ++ (⟨#[10]⟩ : ByteArray)) := B_ext (by simp only [B_append, List.append_assoc])
    have e2 : (acc ++ (vs[i] ++ (⟨#[10]⟩ : ByteArray))) ++ Tx (valLines (vs.drop (i + 1)) ++ B (respText m l b)) = acc ++ Tx (valLines (vs.drop i) ++ B (respText m l b)) := B_ext (by
      rw [drop_at hlt]; simp only [B_append, B_Tx, valLines, List.append_assoc]; rfl)
    obtain ⟨i1, i2⟩ := ih k (i + 1) (acc ++ (vs[i] ++ (⟨#[10]⟩ : ByteArray))) (by omega) (by simp only [ByteArray.size_append, s1]; omega) (by omega)
    simp only [spec_ObjText.l0, impl_ObjText.l0]
    refine ⟨?_, ?_⟩
    · rw [if_pos (by omega), if_pos (by omega), rd_B vs i hlt, if_pos (by omega), if_pos (by simp only [ByteArray.size_append]; omega), nat_round (n := vs.length) hlt (by omega), e1, i1, e2]
    · rw [if_pos (by omega), if_pos (by omega), if_pos (by omega), rd_B vs i hlt, if_pos (by omega), if_pos (by simp only [ByteArray.size_append, s1]; omega), nat_round (n := vs.length) hlt (by omega), i2, e2]
theorem spec_ObjText_f {k K : Nat} {p : ByteArray} {ns vs : List ByteArray} {m : Int} {l : List S116} {b : ByteArray} {t : Int} (hK : K ≤ 1048576) (hp : p.size ≤ K) (hn : SmallB K ns) (hv : SmallB K vs) (hl : SmallF K l) (hk : 9000000 < k) : spec_ObjText.f k p ns vs m l b t = some (objText p ns vs m l b t) := by
  unfold spec_ObjText.f objText
  rw [spec_ObjOk_f hK hp hn hv hl hk, Option.bind_some]
  by_cases h : objB p ns vs m l b t = true
  · obtain ⟨h1, h2, h3, h4, h5, h6, _, h7⟩ := objB_facts h
    have n1 := numT_size t
    have n2 := numT_size (vs.length : Int)
    have n4 := path_size h2
    have s0 : (⟨#[111, 98, 106, 32]⟩ : ByteArray).size = 4 := rfl
    have s1 : (⟨#[32]⟩ : ByteArray).size = 1 := rfl
    have s2 : (⟨#[10]⟩ : ByteArray).size = 1 := rfl
    have e := (ObjText_l0 hK p ns vs m l b t (by omega) (fun v hv => (val_size (h7 v hv)).2) hl vs.length k 0 ((((((((⟨#[111, 98, 106, 32]⟩ : ByteArray) ++ p) ++ (⟨#[32]⟩ : ByteArray)) ++ numT t) ++ (⟨#[32]⟩ : ByteArray)) ++ numT (vs.length : Int)) ++ (⟨#[10]⟩ : ByteArray))) (by omega) (by simp only [ByteArray.size_append, s0, s1, s2]; omega) (by omega)).1
    rw [if_pos h, if_pos h, if_pos (by omega), if_pos (by simp only [ByteArray.size_append, s0]; omega), spec_NumText_f (by omega), Option.bind_some, if_pos (by simp only [ByteArray.size_append, s0, s1]; omega), if_pos (by simp only [ByteArray.size_append, s0, s1]; omega), spec_NumText_f (by omega), Option.bind_some, if_pos (by simp only [ByteArray.size_append, s0, s1]; omega), if_pos (by simp only [ByteArray.size_append, s0, s1]; omega)]
    refine (show _ = _ from e).trans (congrArg some (B_ext ?_))
    simp only [objBytes, B_append, B_Tx, List.drop_zero, List.append_assoc]
    rfl
  · rw [if_neg h, if_neg h]
theorem impl_ObjText_f {k K : Nat} {p : ByteArray} {ns vs : List ByteArray} {m : Int} {l : List S116} {b : ByteArray} {t : Int} (hK : K ≤ 1048576) (hp : p.size ≤ K) (hn : SmallB K ns) (hv : SmallB K vs) (hl : SmallF K l) (hk : 9200000 < k) : impl_ObjText.f k p ns vs m l b t = some (objText p ns vs m l b t) := by
  unfold impl_ObjText.f objText
  rw [impl_ObjOk_f hK hp hn hv hl hk, Option.bind_some]
  by_cases h : objB p ns vs m l b t = true
  · obtain ⟨h1, h2, h3, h4, h5, h6, _, h7⟩ := objB_facts h
    have n1 := numT_size t
    have n2 := numT_size (vs.length : Int)
    have n4 := path_size h2
    have s0 : (⟨#[111, 98, 106, 32]⟩ : ByteArray).size = 4 := rfl
    have s1 : (⟨#[32]⟩ : ByteArray).size = 1 := rfl
    have s2 : (⟨#[10]⟩ : ByteArray).size = 1 := rfl
    have e := (ObjText_l0 hK p ns vs m l b t (by omega) (fun v hv => (val_size (h7 v hv)).2) hl vs.length k 0 ((((((((⟨#[111, 98, 106, 32]⟩ : ByteArray) ++ p) ++ (⟨#[32]⟩ : ByteArray)) ++ numT t) ++ (⟨#[32]⟩ : ByteArray)) ++ numT (vs.length : Int)) ++ (⟨#[10]⟩ : ByteArray))) (by omega) (by simp only [ByteArray.size_append, s0, s1, s2]; omega) (by omega)).2
    rw [if_pos h, if_pos h, if_pos (by omega), if_pos (by simp only [ByteArray.size_append, s0]; omega), impl_NumText_f, Option.bind_some, if_pos (by simp only [ByteArray.size_append, s0, s1]; omega), if_pos (by simp only [ByteArray.size_append, s0, s1]; omega), itoa_numT (by omega), Option.bind_some, if_pos (by simp only [ByteArray.size_append, s0, s1]; omega), if_pos (by simp only [ByteArray.size_append, s0, s1]; omega)]
    refine (show _ = _ from e).trans (congrArg some (B_ext ?_))
    simp only [objBytes, B_append, B_Tx, List.drop_zero, List.append_assoc]
    rfl
  · rw [if_neg h, if_neg h]
/-! ### a line up to byte 10 -/
theorem spec_l10Line_l0 (s : ByteArray) (hs : s.size ≤ 1048576) (a : Nat) : ∀ (d k i : Nat), s.size - i = d → a ≤ i → i ≤ s.size → d < k →
    ∃ v n, spec_l10Line.l0 k s a i = some (v, n) ∧ v.size ≤ s.size ∧ (n = -1 ∨ 1 ≤ n ∧ n ≤ s.size) ∧ ∀ x rest, (B s).drop a = x ++ (10 :: rest) → (10 : UInt8) ∉ x → i ≤ a + x.length → v = Tx x ∧ n = ((a + x.length + 1 : Nat) : Int) := by
  intro d
  induction d with
  | zero =>
    intro k i hd ha hi hk
    obtain ⟨k, rfl⟩ := succ_of hk
    simp only [spec_l10Line.l0]
    rw [if_neg (by omega)]
    refine ⟨_, _, rfl, Nat.zero_le _, .inl rfl, fun x rest h1 h2 h3 => ?_⟩
    have := congrArg List.length h1
    rw [List.length_drop, B_len, List.length_append, List.length_cons] at this
    omega
  | succ d ih =>
    intro k i hd ha hi hk
    obtain ⟨k, rfl⟩ := succ_of (show 0 < k by omega)
    have hl : i < (B s).length := by rw [B_len]; omega
    have hiz : i ≤ 1048576 := by omega
    simp only [spec_l10Line.l0]
    rw [if_pos (by omega), if_pos (by omega), bt_get s i hl]
    by_cases c : (B s)[i] = 10
    · rw [if_pos ((octv (d := 10) (n := 10) rfl).2 c), if_pos (by omega), if_pos (by omega), if_pos (by omega), Int.toNat_natCast, Int.toNat_natCast, w64_n1 hiz]
      refine ⟨_, _, rfl, by rw [ByteArray.size_extract]; omega, .inr ⟨by omega, by omega⟩, fun x rest h1 h2 h3 => ?_⟩
      have e : i = a + x.length := by
        by_cases h4 : i < a + x.length
        · exfalso
          have := in_first h1 ha h4 hl
          rw [c] at this
          exact h2 this
        · omega
      rw [e]
      exact ⟨cut_line h1, rfl⟩
    · rw [if_neg (fun h => c ((octv (d := 10) (n := 10) rfl).1 h)), w64_n1 hiz]
      obtain ⟨v, n, e, g1, g2, g3⟩ := ih k (i + 1) (by omega) (by omega) (by omega) (by omega)
      refine ⟨v, n, e, g1, g2, fun x rest h1 h2 h3 => g3 x rest h1 h2 ?_⟩
      by_cases h4 : i = a + x.length
      · exfalso
        apply c
        have h10 : ((B s).drop a)[x.length]? = some 10 := by rw [h1, List.getElem?_append_right (Nat.le_refl _), Nat.sub_self]; rfl
        rw [List.getElem?_drop] at h10
        subst h4
        exact get_of h10 hl
      · omega
theorem spec_l10Line_f {k a : Nat} {s : ByteArray} (hs : s.size ≤ 1048576) (ha : a ≤ s.size) (hk : s.size < k) : ∃ v n, spec_l10Line.f k s a = some (v, n) ∧ v.size ≤ s.size ∧ (n = -1 ∨ 1 ≤ n ∧ n ≤ s.size) ∧ ∀ x rest, (B s).drop a = x ++ (10 :: rest) → (10 : UInt8) ∉ x → v = Tx x ∧ n = ((a + x.length + 1 : Nat) : Int) := by
  obtain ⟨v, n, e, g1, g2, g3⟩ := spec_l10Line_l0 s hs a (s.size - a) k a rfl (Nat.le_refl _) ha (by omega)
  exact ⟨v, n, e, g1, g2, fun x rest h1 h2 => g3 x rest h1 h2 (by omega)⟩
theorem index10 (rest : List UInt8) : ∀ x : List UInt8, (10 : UInt8) ∉ x → Lib.index (x ++ (10 :: rest)) [10] = (x.length : Int)
  | [], _ => by simp [Lib.index, List.isPrefixOf]
  | y :: r, h => by
    have hy : ((10 : UInt8) == y) = false := beq_eq_false_iff_ne.2 fun e => h (by rw [e]; simp)
    have ih := index10 rest r (fun hm => h (by simp [hm]))
    rw [List.cons_append, Lib.index, if_neg (by simp [List.isPrefixOf, hy]), ih, if_neg (by rw [beq_iff_eq]; omega)]
    simp only [List.length_cons]
    omega
theorem cut10 {x rest : List UInt8} (h : (10 : UInt8) ∉ x) : Lib.cut (x ++ (10 :: rest)) [10] = (x, rest, true) := by
  unfold Lib.cut
  rw [index10 rest x h, if_pos (by omega), Int.toNat_natCast, List.take_left, List.drop_append, List.drop_eq_nil_of_le (by simp), List.nil_append, Nat.add_sub_cancel_left]; rfl
/-! ### an object's text, back -/
def objFirst (p : ByteArray) (t n : Int) : List UInt8 := [111, 98, 106] ++ (32 :: (B p ++ (32 :: (B (numT t) ++ (32 :: B (numT n))))))
theorem objBytes_first (p : ByteArray) (vs : List ByteArray) (m : Int) (l : List S116) (b : ByteArray) (t : Int) : objBytes p vs m l b t = objFirst p t (vs.length : Int) ++ (10 :: (valLines vs ++ B (respText m l b))) := by
  unfold objBytes objFirst
  simp
theorem obj_words {p : ByteArray} {t n : Int} (hp : pathB p = true) (ht : 0 ≤ t ∧ t ≤ 1000000) (hn : 0 ≤ n ∧ n ≤ 1000000) : splitBs (Tx (objFirst p t n)) ⟨#[32]⟩ = [Tx [111, 98, 106], p, numT t, numT n] := by
  have e : Tx (objFirst p t n) = Tx [111, 98, 106] ++ ((⟨#[32]⟩ : ByteArray) ++ (p ++ ((⟨#[32]⟩ : ByteArray) ++ (numT t ++ ((⟨#[32]⟩ : ByteArray) ++ numT n))))) := by
    apply B_ext
    simp only [B_append, B_Tx]
    rfl
  have h1 : (32 : UInt8) ∉ B (Tx [111, 98, 106]) := by rw [B_Tx]; decide
  have h2 : (32 : UInt8) ∉ B p := fun hc => absurd ((path_bytes hp).1 _ hc).1 (by decide)
  have h3 : (32 : UInt8) ∉ B (numT t) := fun hc => absurd ((num_bytes ht).1 _ hc) (by decide)
  have h4 : (32 : UInt8) ∉ B (numT n) := fun hc => absurd ((num_bytes hn).1 _ hc) (by decide)
  rw [e, splitBs_app (c := 32) (r := []) rfl h1, splitBs_app (c := 32) (r := []) rfl h2, splitBs_app (c := 32) (r := []) rfl h3, splitBs_free (c := 32) (r := []) rfl h4]
theorem objFirst_10 {p : ByteArray} {t n : Int} (hp : pathB p = true) (ht : 0 ≤ t ∧ t ≤ 1000000) (hn : 0 ≤ n ∧ n ≤ 1000000) : (10 : UInt8) ∉ objFirst p t n := fun hc => by
  unfold objFirst at hc
  rcases List.mem_append.1 hc with hc | hc
  · exact absurd hc (by decide)
  · rcases List.mem_cons.1 hc with hc | hc
    · exact absurd hc (by decide)
    · rcases List.mem_append.1 hc with hc | hc
      · exact absurd ((path_bytes hp).1 _ hc).1 (by decide)
      · rcases List.mem_cons.1 hc with hc | hc
        · exact absurd hc (by decide)
        · rcases List.mem_append.1 hc with hc | hc
          · exact absurd ((num_bytes ht).1 _ hc) (by decide)
          · rcases List.mem_cons.1 hc with hc | hc
            · exact absurd hc (by decide)
            · exact absurd ((num_bytes hn).1 _ hc) (by decide)
theorem objB_of {p : ByteArray} {ns vs : List ByteArray} {m : Int} {l : List S116} {b s : ByteArray} {t : Int} (h : objText p ns vs m l b t = s) (hz : 0 < s.size) : objB p ns vs m l b t = true := by
  unfold objText at h
  by_cases c : objB p ns vs m l b t = true
  · exact c
  · rw [if_neg c] at h
    rw [← h] at hz
    exact absurd hz (by decide)
theorem obj_head {p : ByteArray} {ns vs : List ByteArray} {m : Int} {l : List S116} {b s : ByteArray} {t : Int} (hq : objB p ns vs m l b t = true) (hr : objText p ns vs m l b t = s) : B s = objFirst p t (vs.length : Int) ++ (10 :: (valLines vs ++ B (respText m l b))) := by
  rw [← hr]
  unfold objText
  rw [if_pos hq, B_Tx, objBytes_first]
def GoodO (s : ByteArray) (r : ByteArray × List ByteArray × List ByteArray × Int × List S116 × ByteArray × Int × Bool) : Prop := r = rejO ∨ ∃ p vs m l b t, r = (p, varyF l, vs, m, l, b, t, true) ∧ objText p (varyF l) vs m l b t = s ∧ 0 < s.size
theorem smallO {s : ByteArray} {m : Int} {l : List S116} {b : ByteArray} {ok : Bool} (h1 : (m, l, b, ok) = rejR ∨ ∃ m' l' b', (m, l, b, ok) = (m', l', b', true) ∧ respText m' l' b' = s ∧ 0 < s.size ∧ l'.length ≤ 1048576) : SmallF 100 l := by
  rcases h1 with h1 | ⟨m', l', b', h1, hr, hz, _⟩
  · injection h1 with _ h1
    injection h1 with h1 _
    rw [h1]
    exact ⟨Nat.zero_le _, fun x hx => by cases hx⟩
  · injection h1 with _ h1
    injection h1 with h1 _
    rw [h1]
    exact fieldsB_SmallF (respB_facts (respB_of hr hz)).2.2
theorem spec_ObjRead_j2 {k : Nat} {s : ByteArray} (hs : s.size ≤ 1048576) (hz : 0 < s.size) (a : Int) (ha : a = -1 ∨ 1 ≤ a ∧ a ≤ s.size) (p : ByteArray) (vs : List ByteArray) (hp : p.size ≤ 1048576) (hv : SmallB 1048576 vs) (t : Int) (hk : 2199042130100 < k) :
    ∃ r, spec_ObjRead.j2 k s a p vs 0 ⟨#[]⟩ t = some r ∧ GoodO s r ∧ ∀ (n : Nat) m l b, a = n → (B s).drop n = B (respText m l b) → respB m l b = true → objText p (varyF l) vs m l b t = s → r = (p, varyF l, vs, m, l, b, t, true) := by
  obtain ⟨k, rfl⟩ := succ_of (show 0 < k by omega)
  simp only [spec_ObjRead.j2]
  by_cases c : a < 0
  · rw [if_pos c]
    exact ⟨_, rfl, .inl rfl, fun n m l b h => by omega⟩
  · obtain ⟨n, rfl⟩ : ∃ n : Nat, a = n := ⟨a.toNat, by omega⟩
    obtain ⟨r, e, h1, h2⟩ := spec_RespRead_f (k := k) (s := s.extract n s.size) (by rw [ByteArray.size_extract]; omega) (by omega)
    obtain ⟨m, l, b, ok⟩ := r
    have hl : SmallF 100 l := smallO h1
    have hn := varyF_small hl
    have hn' : SmallB 1048576 (varyF l) := ⟨by have := hn.1; omega, fun x hx => by have := hn.2 x hx; omega⟩
    have hl' : SmallF 1048576 l := ⟨by have := hl.1; omega, fun x hx => by have := hl.2 x hx; omega⟩
    rw [if_neg c, if_pos (by omega), if_pos (by omega), Int.toNat_natCast, e, Option.bind_some]
    dsimp only
    rw [spec_VaryOf_f (K := 100) (by omega) hl (by omega), Option.bind_some, spec_ObjText_f (K := 1048576) (by omega) hp hn' hv hl' (by omega), Option.bind_some]
    refine ⟨if objText p (varyF l) vs m l b t = s then (p, varyF l, vs, m, l, b, t, true) else rejO, ?_, ?_, fun n' m' l' b' hnn hd hq hr => ?_⟩
    · by_cases c4 : objText p (varyF l) vs m l b t = s
      · rw [if_pos ((toList_iff _ _).2 c4), if_pos c4]
      · rw [if_neg (fun h => c4 (toList_inj h)), if_neg c4]; rfl
    · by_cases c4 : objText p (varyF l) vs m l b t = s
      · rw [if_pos c4]; exact .inr ⟨_, _, _, _, _, _, rfl, c4, hz⟩
      · rw [if_neg c4]; exact .inl rfl
    · have hnn' : n = n' := by omega
      subst hnn'
      have hx : s.extract n s.size = respText m' l' b' := by
        apply B_ext
        rw [B_extract, List.take_of_length_le (by rw [B_len]; omega)]; exact hd
      have h3 := h2 m' l' b' hq hx.symm
      injection h3 with a1 a2
      injection a2 with a2 a3
      injection a3 with a3 _
      subst a1; subst a2; subst a3
      rw [if_pos hr]
theorem spec_ObjRead_l0 (s : ByteArray) (hs : s.size ≤ 1048576) (hz : 0 < s.size) (p : ByteArray) (hp : p.size ≤ 1048576) (t N : Int) : ∀ (d k i : Nat) (a : Int) (acc : List ByteArray), i + d = 4 → acc.length = i → (∀ x ∈ acc, x.size ≤ 1048576) → (a = -1 ∨ 1 ≤ a ∧ a ≤ s.size) → 2199042130200 + d < k →
    ∃ r, spec_ObjRead.l0 k s a N i p acc 0 ⟨#[]⟩ t = some r ∧ GoodO s r ∧ ∀ (n : Nat) vs m l b, a = n → N = ((i + vs.length : Nat) : Int) → i + vs.length ≤ 4 → (B s).drop n = valLines vs ++ B (respText m l b) → (∀ v ∈ vs, (10 : UInt8) ∉ B v) → respB m l b = true → objText p (varyF l) (acc ++ vs) m l b t = s → r = (p, varyF l, acc ++ vs, m, l, b, t, true) := by
  intro d
  induction d with
  | zero =>
    intro k i a acc hd hi hx ha hk
    obtain ⟨k, rfl⟩ := succ_of (show 0 < k by omega)
    obtain ⟨r, e, g1, g2⟩ := spec_ObjRead_j2 (k := k) hs hz a ha p acc hp ⟨by omega, hx⟩ t (by omega)
    refine ⟨r, ?_, g1, fun n vs m l b h1 h2 h3 h4 _ h6 h7 => ?_⟩
    · simp only [spec_ObjRead.l0]
      by_cases c : (i : Int) < N
      · rw [if_pos c, if_neg (by omega)]; exact e
      · rw [if_neg c]; exact e
    · have hv : vs = [] := List.eq_nil_of_length_eq_zero (by omega)
      subst hv
      rw [List.append_nil] at h7 ⊢
      exact g2 n m l b h1 h4 h6 h7
  | succ d ih =>
    intro k i a acc hd hi hx ha hk
    obtain ⟨k, rfl⟩ := succ_of (show 0 < k by omega)
    by_cases c : (i : Int) < N
    · by_cases c2 : a ≥ 0
      · obtain ⟨n0, rfl⟩ : ∃ n : Nat, a = n := ⟨a.toNat, by omega⟩
        obtain ⟨v, a', e0, g1, g2, g3⟩ := spec_l10Line_f (k := k) (a := n0) hs (by omega) (by omega)
        obtain ⟨r, e, q1, q2⟩ := ih k (i + 1) a' (acc ++ [v]) (by omega) (by rw [List.length_append, List.length_singleton]; omega) (fun x hx' => by
          rcases List.mem_append.1 hx' with hx' | hx'
          · exact hx x hx'
          · rw [List.mem_singleton.1 hx']; omega) g2 (by omega)
        refine ⟨r, ?_, q1, fun n vs m l b h1 h2 h3 h4 h5 h6 h7 => ?_⟩
        · simp only [spec_ObjRead.l0]
          rw [if_pos c, if_pos (by omega), if_pos c2, e0, Option.bind_some, if_pos (by omega), w64_n1 (show i ≤ 1048576 by omega)]
          exact e
        · have hn : n0 = n := by omega
          subst hn
          cases vs with
          | nil => simp only [List.length_nil] at h2; omega
          | cons v0 vs =>
            have h4' : (B s).drop n0 = B v0 ++ (10 :: (valLines vs ++ B (respText m l b))) := by rw [h4]; simp [valLines]
            obtain ⟨w1, w2⟩ := g3 _ _ h4' (h5 v0 (by simp))
            rw [Tx_B] at w1
            subst w1
            have h8 : (B s).drop (n0 + (B v).length + 1) = valLines vs ++ B (respText m l b) := by
              rw [show n0 + (B v).length + 1 = n0 + ((B v).length + 1) by omega, ← List.drop_drop, h4', List.drop_append, List.drop_eq_nil_of_le (by omega), List.nil_append, Nat.add_sub_cancel_left]; rfl
            have h9 := q2 (n0 + (B v).length + 1) vs m l b w2 (by rw [h2, List.length_cons]; omega) (by rw [List.length_cons] at h3; omega) h8 (fun y hy => h5 y (by simp [hy])) h6 (by rw [List.append_assoc]; exact h7)
            rw [h9, List.append_assoc]; rfl
      · obtain ⟨r, e, g1, g2⟩ := spec_ObjRead_j2 (k := k) hs hz a ha p acc hp ⟨by omega, hx⟩ t (by omega)
        refine ⟨r, ?_, g1, fun n vs m l b h1 h2 h3 h4 _ h6 h7 => by omega⟩
        simp only [spec_ObjRead.l0]
        rw [if_pos c, if_pos (by omega), if_neg c2]; exact e
    · obtain ⟨r, e, g1, g2⟩ := spec_ObjRead_j2 (k := k) hs hz a ha p acc hp ⟨by omega, hx⟩ t (by omega)
      refine ⟨r, ?_, g1, fun n vs m l b h1 h2 h3 h4 _ h6 h7 => ?_⟩
      · simp only [spec_ObjRead.l0]
        rw [if_neg c]; exact e
      · have hv : vs = [] := List.eq_nil_of_length_eq_zero (by omega)
        subst hv
        rw [List.append_nil] at h7 ⊢
        exact g2 n m l b h1 h4 h6 h7
theorem spec_ObjRead_f {k : Nat} {s : ByteArray} (hs : s.size ≤ 1048576) (hk : 2199042130300 < k) : ∃ r, spec_ObjRead.f k s = some r ∧ GoodO s r ∧ ∀ p vs m l b t, objB p (varyF l) vs m l b t = true → objText p (varyF l) vs m l b t = s → r = (p, varyF l, vs, m, l, b, t, true) := by
  obtain ⟨v, a, e, g1, g2, g3⟩ := spec_l10Line_f (k := k) (a := 0) hs (by omega) (by omega)
  have hv := splitBs_small v.size v ⟨#[32]⟩ (Nat.le_refl _) (by show 1 ≤ 1; omega)
  have comp : ∀ p vs m l b t, objB p (varyF l) vs m l b t = true → objText p (varyF l) vs m l b t = s → splitBs v ⟨#[32]⟩ = [Tx [111, 98, 106], p, numT t, numT (vs.length : Int)] ∧ (∃ n : Nat, a = n ∧ (B s).drop n = valLines vs ++ B (respText m l b)) ∧ vs.length ≤ 4 ∧ (0 ≤ t ∧ t ≤ 1000000) ∧ respB m l b = true ∧ ∀ y ∈ vs, (10 : UInt8) ∉ B y := fun p vs m l b t hq hr => by
    obtain ⟨f1, f2, f3, f4, f5, f6, f7, f8⟩ := objB_facts hq
    have hh := obj_head hq hr
    have hn : 0 ≤ (vs.length : Int) ∧ (vs.length : Int) ≤ 1000000 := ⟨by omega, by omega⟩
    obtain ⟨w1, w2⟩ := g3 _ _ (by rw [List.drop_zero]; exact hh) (objFirst_10 f2 f3 hn)
    refine ⟨by rw [w1]; exact obj_words f2 f3 hn, ⟨_, w2, ?_⟩, by omega, f3, f1, fun y hy hc => ?_⟩
    · rw [hh, show 0 + (objFirst p t (vs.length : Int)).length + 1 = (objFirst p t (vs.length : Int)).length + 1 by omega, List.drop_append, List.drop_eq_nil_of_le (by omega), List.nil_append, Nat.add_sub_cancel_left]; rfl
    · exact absurd (val_bytes (f8 y hy) _ hc).1 (by decide)
  unfold spec_ObjRead.f
  rw [show spec_l10Line.f k s 0 = some (v, a) from e, Option.bind_some]
  dsimp only
  rw [spec_l3Words_f (by omega) (by omega), Option.bind_some]
  obtain ⟨k, rfl⟩ := succ_of (show 0 < k by omega)
  by_cases c : a < 0
  · rw [if_pos c]
    simp only [spec_ObjRead.j0]
    rw [if_pos trivial]
    exact ⟨_, rfl, .inl rfl, fun p vs m l b t hq hr => by obtain ⟨_, ⟨n, h, _⟩, _⟩ := comp p vs m l b t hq hr; omega⟩
  · rw [if_neg c]
    simp only [spec_ObjRead.j0]
    by_cases c3 : (splitBs v ⟨#[32]⟩).length = 4
    · have r1 : rdOf ByteArray.empty (splitBs v ⟨#[32]⟩) 1 = (splitBs v ⟨#[32]⟩)[1] := rd_B _ 1 (by omega)
      have r2 : rdOf ByteArray.empty (splitBs v ⟨#[32]⟩) 2 = (splitBs v ⟨#[32]⟩)[2] := rd_B _ 2 (by omega)
      have r3 : rdOf ByteArray.empty (splitBs v ⟨#[32]⟩) 3 = (splitBs v ⟨#[32]⟩)[3] := rd_B _ 3 (by omega)
      have hp := hv _ (List.getElem_mem (show 1 < (splitBs v ⟨#[32]⟩).length by omega))
      obtain ⟨r, er, q1, q2⟩ := spec_ObjRead_l0 s hs (by omega) (splitBs v ⟨#[32]⟩)[1] (by omega) (numRead (splitBs v ⟨#[32]⟩)[2]).1 (numRead (splitBs v ⟨#[32]⟩)[3]).1 4 k 0 a [] (by omega) rfl (fun x hx => by cases hx) g2 (by omega)
      rw [if_neg (by simp [c3]), if_pos (by omega), r2, spec_NumRead_f (by omega), Option.bind_some, if_pos (by omega), r3, spec_NumRead_f (by omega), Option.bind_some, if_pos (by omega), r1]
      refine ⟨r, er, q1, fun p vs m l b t hq hr => ?_⟩
      obtain ⟨w, ⟨n, h1, h2⟩, h3, h4, h5, h6⟩ := comp p vs m l b t hq hr
      have w1 : (splitBs v ⟨#[32]⟩)[1] = p := by simp only [w]; rfl
      have w2 : (splitBs v ⟨#[32]⟩)[2] = numT t := by simp only [w]; rfl
      have w3 : (splitBs v ⟨#[32]⟩)[3] = numT (vs.length : Int) := by simp only [w]; rfl
      rw [w1, w2, w3, numRead_numT h4, numRead_numT ⟨by omega, by omega⟩] at q2
      have := q2 n vs m l b h1 (by dsimp only; omega) (by omega) h2 h6 h5 (by rw [List.nil_append]; exact hr)
      rw [this, List.nil_append]
    · rw [if_pos (by simpa using fun h => c3 (by omega))]
      refine ⟨_, rfl, .inl rfl, fun p vs m l b t hq hr => ?_⟩
      rw [(comp p vs m l b t hq hr).1] at c3
      exact absurd rfl c3
theorem impl_ObjRead_tail {k : Nat} {s : ByteArray} (hz : 0 < s.size) (u : ByteArray) (hu : u.size ≤ 1048576) (p : ByteArray) (acc : List ByteArray) (hp : p.size ≤ 1048576) (hv : SmallB 1048576 acc) (t : Int) (hk : 9300000 < k) :
    ∃ r, ((impl_RespRead.f k u).bind fun x => ((impl_VaryOf.f k x.2.1).bind fun y => (if x.2.2.2 = true then ((impl_ObjText.f k p y acc x.1 x.2.1 x.2.2.1 t).bind fun z => (if z.toList = s.toList then (some (p, y, acc, x.1, x.2.1, x.2.2.1, t, true)) else (some rejO))) else (some rejO)))) = some r ∧ GoodO s r ∧ ∀ m l b, B u = B (respText m l b) → respB m l b = true → objText p (varyF l) acc m l b t = s → r = (p, varyF l, acc, m, l, b, t, true) := by
  obtain ⟨r, e, h1, h2⟩ := impl_RespRead_f (k := k) (s := u) hu (by omega)
  obtain ⟨m, l, b, ok⟩ := r
  have hl : SmallF 100 l := smallO h1
  have hn := varyF_small hl
  have hn' : SmallB 1048576 (varyF l) := ⟨by have := hn.1; omega, fun x hx => by have := hn.2 x hx; omega⟩
  have hl' : SmallF 1048576 l := ⟨by have := hl.1; omega, fun x hx => by have := hl.2 x hx; omega⟩
  have same : ∀ m' l' b', B u = B (respText m' l' b') → respB m' l' b' = true → m = m' ∧ l = l' ∧ b = b' ∧ ok = true := fun m' l' b' hd hq => by
    have h3 := h2 m' l' b' hq (B_ext hd).symm
    injection h3 with a1 a2
    injection a2 with a2 a3
    injection a3 with a3 a4
    exact ⟨a1, a2, a3, a4⟩
  rw [e, Option.bind_some]
  dsimp only
  rw [impl_VaryOf_f (K := 100) (by omega) hl (by omega), Option.bind_some]
  cases ok with
  | false =>
    rw [if_neg (by simp)]
    exact ⟨_, rfl, .inl rfl, fun m' l' b' hd hq _ => by have := (same m' l' b' hd hq).2.2.2; cases this⟩
  | true =>
    rw [if_pos rfl, impl_ObjText_f (K := 1048576) (by omega) hp hn' hv hl' (by omega), Option.bind_some]
    refine ⟨if objText p (varyF l) acc m l b t = s then (p, varyF l, acc, m, l, b, t, true) else rejO, ?_, ?_, fun m' l' b' hd hq hr => ?_⟩
    · by_cases c4 : objText p (varyF l) acc m l b t = s
      · rw [if_pos ((toList_iff _ _).2 c4), if_pos c4]
      · rw [if_neg (fun h => c4 (toList_inj h)), if_neg c4]
    · by_cases c4 : objText p (varyF l) acc m l b t = s
      · rw [if_pos c4]; exact .inr ⟨_, _, _, _, _, _, rfl, c4, hz⟩
      · rw [if_neg c4]; exact .inl rfl
    · obtain ⟨a1, a2, a3, _⟩ := same m' l' b' hd hq
      subst a1; subst a2; subst a3
      rw [if_pos hr]
theorem impl_ObjRead_l0 (s : ByteArray) (hs : s.size ≤ 1048576) (hz : 0 < s.size) (p : ByteArray) (hp : p.size ≤ 1048576) (t : Int) : ∀ (d k i : Nat) (N : Int) (u : ByteArray) (acc : List ByteArray), i + d = 4 → N ≤ 4 → acc.length = i → (∀ x ∈ acc, x.size ≤ 1048576) → u.size ≤ 1048576 → 9300010 + d < k →
    ∃ r, impl_ObjRead.l0 k s u N i p acc 0 ⟨#[]⟩ t = some r ∧ GoodO s r ∧ ∀ vs m l b, N = ((i + vs.length : Nat) : Int) → B u = valLines vs ++ B (respText m l b) → (∀ v ∈ vs, (10 : UInt8) ∉ B v) → respB m l b = true → objText p (varyF l) (acc ++ vs) m l b t = s → r = (p, varyF l, acc ++ vs, m, l, b, t, true) := by
  intro d
  induction d with
  | zero =>
    intro k i N u acc hd hN hi hx hu hk
    obtain ⟨k, rfl⟩ := succ_of (show 0 < k by omega)
    obtain ⟨r, e, g1, g2⟩ := impl_ObjRead_tail (k := k) hz u hu p acc hp ⟨by omega, hx⟩ t (by omega)
    refine ⟨r, ?_, g1, fun vs m l b h2 h4 _ h6 h7 => ?_⟩
    · simp only [impl_ObjRead.l0]
      rw [if_neg (by omega)]; exact e
    · have hv : vs = [] := List.eq_nil_of_length_eq_zero (by omega)
      subst hv
      rw [List.append_nil] at h7 ⊢
      exact g2 m l b h4 h6 h7
  | succ d ih =>
    intro k i N u acc hd hN hi hx hu hk
    obtain ⟨k, rfl⟩ := succ_of (show 0 < k by omega)
    by_cases c : (i : Int) < N
    · have hc := cut_len (B u) [10]
      rw [B_len] at hc
      obtain ⟨r, e, q1, q2⟩ := ih k (i + 1) N (Tx (Lib.cut (B u) [10]).2.1) (acc ++ [Tx (Lib.cut (B u) [10]).1]) (by omega) hN (by rw [List.length_append, List.length_singleton]; omega) (fun x hx' => by
        rcases List.mem_append.1 hx' with hx' | hx'
        · exact hx x hx'
        · rw [List.mem_singleton.1 hx', Tx_size]; omega) (by rw [Tx_size]; omega) (by omega)
      refine ⟨r, ?_, q1, fun vs m l b h2 h4 h5 h6 h7 => ?_⟩
      · simp only [impl_ObjRead.l0]
        rw [if_pos c, strings_Cut_f hu, Option.bind_some, if_pos (by omega), w64_n1 (show i ≤ 1048576 by omega)]
        exact e
      · cases vs with
        | nil => simp only [List.length_nil] at h2; omega
        | cons v0 vs =>
          have h4' : B u = B v0 ++ (10 :: (valLines vs ++ B (respText m l b))) := by rw [h4]; simp [valLines]
          have hcc := cut10 (rest := valLines vs ++ B (respText m l b)) (h5 v0 (by simp))
          rw [← h4'] at hcc
          have w1 : Tx (Lib.cut (B u) [10]).1 = v0 := by rw [hcc]; exact Tx_B v0
          have w2 : B (Tx (Lib.cut (B u) [10]).2.1) = valLines vs ++ B (respText m l b) := by rw [hcc, B_Tx]
          have h9 := q2 vs m l b (by rw [h2, List.length_cons]; omega) w2 (fun y hy => h5 y (by simp [hy])) h6 (by rw [w1, List.append_assoc]; exact h7)
          rw [h9, w1, List.append_assoc]; rfl
    · obtain ⟨r, e, g1, g2⟩ := impl_ObjRead_tail (k := k) hz u hu p acc hp ⟨by omega, hx⟩ t (by omega)
      refine ⟨r, ?_, g1, fun vs m l b h2 h4 _ h6 h7 => ?_⟩
      · simp only [impl_ObjRead.l0]
        rw [if_neg c]; exact e
      · have hv : vs = [] := List.eq_nil_of_length_eq_zero (by omega)
        subst hv
        rw [List.append_nil] at h7 ⊢
        exact g2 m l b h4 h6 h7
theorem impl_ObjRead_f {k : Nat} {s : ByteArray} (hs : s.size ≤ 1048576) (hk : 9400000 < k) : ∃ r, impl_ObjRead.f k s = some r ∧ GoodO s r ∧ ∀ p vs m l b t, objB p (varyF l) vs m l b t = true → objText p (varyF l) vs m l b t = s → r = (p, varyF l, vs, m, l, b, t, true) := by
  obtain ⟨v, hv0⟩ : ∃ v, v = Tx (Lib.cut (B s) [10]).1 := ⟨_, rfl⟩
  obtain ⟨u, hu0⟩ : ∃ u, u = Tx (Lib.cut (B s) [10]).2.1 := ⟨_, rfl⟩
  have hc := cut_len (B s) [10]
  rw [B_len] at hc
  have hvs : v.size ≤ s.size := by rw [hv0, Tx_size]; omega
  have hus : u.size ≤ 1048576 := by rw [hu0, Tx_size]; omega
  have hv := splitBs_small v.size v ⟨#[32]⟩ (Nat.le_refl _) (by show 1 ≤ 1; omega)
  have comp : ∀ p vs m l b t, objB p (varyF l) vs m l b t = true → objText p (varyF l) vs m l b t = s → splitBs v ⟨#[32]⟩ = [Tx [111, 98, 106], p, numT t, numT (vs.length : Int)] ∧ B u = valLines vs ++ B (respText m l b) ∧ vs.length ≤ 4 ∧ (0 ≤ t ∧ t ≤ 1000000) ∧ respB m l b = true ∧ ∀ y ∈ vs, (10 : UInt8) ∉ B y := fun p vs m l b t hq hr => by
    obtain ⟨f1, f2, f3, f4, f5, f6, f7, f8⟩ := objB_facts hq
    have hh := obj_head hq hr
    have hn : 0 ≤ (vs.length : Int) ∧ (vs.length : Int) ≤ 1000000 := ⟨by omega, by omega⟩
    have hcc := cut10 (rest := valLines vs ++ B (respText m l b)) (objFirst_10 f2 f3 hn)
    rw [← hh] at hcc
    refine ⟨by rw [hv0, hcc]; exact obj_words f2 f3 hn, by rw [hu0, hcc, B_Tx], by omega, f3, f1, fun y hy hc => ?_⟩
    exact absurd (val_bytes (f8 y hy) _ hc).1 (by decide)
  unfold impl_ObjRead.f
  rw [strings_Cut_f hs, Option.bind_some]
  dsimp only
  rw [show B ⟨#[10]⟩ = [10] from rfl, ← hv0, ← hu0]
  unfold strings_Split.f
  rw [if_pos ⟨by omega, by show 1 ≤ 1; omega⟩, Option.bind_some]
  by_cases c3 : (splitBs v ⟨#[32]⟩).length = 4
  · have hz : 0 < s.size := by
      rcases Nat.eq_zero_or_pos v.size with h0 | h0
      · exfalso
        have : v = ⟨#[]⟩ := B_ext (List.eq_nil_of_length_eq_zero (by rw [B_len]; exact h0))
        rw [this] at c3
        exact absurd c3 (by decide)
      · omega
    have r1 : rdOf ByteArray.empty (splitBs v ⟨#[32]⟩) 1 = (splitBs v ⟨#[32]⟩)[1] := rd_B _ 1 (by omega)
    have r2 : rdOf ByteArray.empty (splitBs v ⟨#[32]⟩) 2 = (splitBs v ⟨#[32]⟩)[2] := rd_B _ 2 (by omega)
    have r3 : rdOf ByteArray.empty (splitBs v ⟨#[32]⟩) 3 = (splitBs v ⟨#[32]⟩)[3] := rd_B _ 3 (by omega)
    have hp := hv _ (List.getElem_mem (show 1 < (splitBs v ⟨#[32]⟩).length by omega))
    obtain ⟨T, ok1, hT⟩ : ∃ T ok1, numRead (splitBs v ⟨#[32]⟩)[2] = (T, ok1) := ⟨_, _, rfl⟩
    obtain ⟨M, ok2, hM⟩ : ∃ M ok2, numRead (splitBs v ⟨#[32]⟩)[3] = (M, ok2) := ⟨_, _, rfl⟩
    have comp2 : ∀ p vs m l b t, objB p (varyF l) vs m l b t = true → objText p (varyF l) vs m l b t = s → (splitBs v ⟨#[32]⟩)[1] = p ∧ T = t ∧ ok1 = true ∧ M = (vs.length : Int) ∧ ok2 = true ∧ vs.length ≤ 4 := fun p vs m l b t hq hr => by
      obtain ⟨w, h2, h3, h4, h5, h6⟩ := comp p vs m l b t hq hr
      have w1 : (splitBs v ⟨#[32]⟩)[1] = p := by simp only [w]; rfl
      have w2 : (splitBs v ⟨#[32]⟩)[2] = numT t := by simp only [w]; rfl
      have w3 : (splitBs v ⟨#[32]⟩)[3] = numT (vs.length : Int) := by simp only [w]; rfl
      rw [w2, numRead_numT h4] at hT
      rw [w3, numRead_numT ⟨by omega, by omega⟩] at hM
      injection hT with a1 a2
      injection hM with b1 b2
      exact ⟨w1, a1.symm, a2.symm, b1.symm, b2.symm, h3⟩
    have rej : ∀ k' : Nat, 0 < k' → impl_ObjRead.j0 k' s u (splitBs v ⟨#[32]⟩) T M true = some rejO := fun k' hk' => by
      obtain ⟨k', rfl⟩ := succ_of hk'
      simp only [impl_ObjRead.j0]
      rw [if_pos trivial]; rfl
    rw [if_pos (by omega), if_pos (by omega), r2, impl_NumRead_f, Option.bind_some, if_pos (by omega), r3, impl_NumRead_f, Option.bind_some, hT, hM]
    dsimp only
    cases ok1 with
    | false =>
      rw [if_neg (by simp), rej k (by omega)]
      exact ⟨_, rfl, .inl rfl, fun p vs m l b t hq hr => by have := (comp2 p vs m l b t hq hr).2.2.1; cases this⟩
    | true =>
      rw [if_pos rfl]
      cases ok2 with
      | false =>
        rw [if_neg (by simp), rej k (by omega)]
        exact ⟨_, rfl, .inl rfl, fun p vs m l b t hq hr => by have := (comp2 p vs m l b t hq hr).2.2.2.2.1; cases this⟩
      | true =>
        rw [if_pos rfl]
        by_cases c4 : M > 4
        · rw [decide_eq_true c4, rej k (by omega)]
          exact ⟨_, rfl, .inl rfl, fun p vs m l b t hq hr => by obtain ⟨_, _, _, h1, _, h2⟩ := comp2 p vs m l b t hq hr; omega⟩
        · rw [decide_eq_false c4]
          obtain ⟨k, rfl⟩ := succ_of (show 0 < k by omega)
          simp only [impl_ObjRead.j0]
          obtain ⟨r, er, q1, q2⟩ := impl_ObjRead_l0 s hs hz (splitBs v ⟨#[32]⟩)[1] (by omega) T 4 k 0 M u [] (by omega) (by omega) rfl (fun x hx => by cases hx) hus (by omega)
          rw [if_neg (by simp), if_pos (by omega), r1]
          refine ⟨r, er, q1, fun p vs m l b t hq hr => ?_⟩
          obtain ⟨w1, w2, _, w3, _, _⟩ := comp2 p vs m l b t hq hr
          obtain ⟨_, h2, _, _, h5, h6⟩ := comp p vs m l b t hq hr
          rw [w1, w2] at q2
          have := q2 vs m l b (by omega) h2 h6 h5 (by rw [List.nil_append]; exact hr)
          rw [this, List.nil_append]
  · rw [if_neg (by omega)]
    refine ⟨_, rfl, .inl rfl, fun p vs m l b t hq hr => ?_⟩
    rw [(comp p vs m l b t hq hr).1] at c3
    exact absurd rfl c3
theorem ObjRead_same {k1 k2 : Nat} {s : ByteArray} (hs : s.size ≤ 1048576) (h1 : 2199042130300 < k1) (h2 : 9400000 < k2) : ∃ r, spec_ObjRead.f k1 s = some r ∧ impl_ObjRead.f k2 s = some r ∧ GoodO s r ∧ ∀ p vs m l b t, objB p (varyF l) vs m l b t = true → objText p (varyF l) vs m l b t = s → r = (p, varyF l, vs, m, l, b, t, true) := by
  obtain ⟨r, e, a1, a2⟩ := spec_ObjRead_f hs h1
  obtain ⟨r', e', b1, b2⟩ := impl_ObjRead_f hs h2
  have heq : r' = r := by
    rcases b1 with b1 | ⟨p, vs, m, l, b, t, b1, hr, hz⟩
    · rcases a1 with a1 | ⟨p, vs, m, l, b, t, a1, hr, hz⟩
      · rw [a1, b1]
      · rw [a1]; exact b2 p vs m l b t (objB_of hr hz) hr
    · rw [b1]; exact (a2 p vs m l b t (objB_of hr hz) hr).symm
  exact ⟨r, e, by rw [← heq]; exact e', a1, a2⟩

end Go.Proofs.YtjlpjbkpmmpojaaGreatDoor.Pure
