/- The program's GetChunks answers as the reference's does, for all bytes and every place; no condition. -/
import Derived.Test.YtkjlbkfnhmeoeabGFnExactGetChunksx4
import Derived.Test.YtkjlbkfnhmeoeabBase
import Derived.Lib.IndexMore
import Derived.Lib.Index
namespace Go.Proofs.Ytkjlbkfnhmeoeab.Pure
open Go.RowKit Go.Proofs.Ytkjlbkfnhmeoeab.GFnExactGetChunks Go.Proofs.Ytkjlbkfnhmeoeab.Base Go.Proofs.YtkjlbkfnhmeoeabW.PrintWords Go.Proofs.YtkjlbkfnhmeoeabW.PrintLast
set_option linter.unusedVariables false
set_option linter.unusedSimpArgs false

/-- byte classes -/
def plainC (c : Int) : Bool := decide (32 ≤ c) && decide (c ≤ 126)
def smallC (c : Int) : Bool := decide (97 ≤ c) && decide (c ≤ 122)
def digitC (c : Int) : Bool := decide (48 ≤ c) && decide (c ≤ 57)
def largeC (c : Int) : Bool := decide (65 ≤ c) && decide (c ≤ 90)

theorem l1In_eq (c a b : Int) : spec_l1In.f c a b = some (decide (a ≤ c) && decide (c ≤ b)) := by
  unfold spec_l1In.f; split <;> simp [*] <;> omega

theorem l1Digit_eq (c : Int) (h : wrap64 c = c) : spec_l1Digit.f c = some (digitC c) := by
  unfold spec_l1Digit.f; rw [h, l1In_eq]; rfl

theorem isDigit_eq (c : Int) : impl_isDigit.f c = some (digitC c) := by
  unfold impl_isDigit.f digitC; split <;> simp [*] <;> omega

/-- a digit's worth to the base 16, or -1 -/
def hexC (c : Int) : Int := if digitC c = true then c - 48 else if 97 ≤ c ∧ c ≤ 102 then c - 87 else if 65 ≤ c ∧ c ≤ 70 then c - 55 else -1
theorem hexC_range (c : Int) : -1 ≤ hexC c ∧ hexC c < 16 := by
  unfold hexC digitC
  split
  · rename_i h; simp at h; omega
  · split
    · omega
    · split <;> omega
theorem digitOf_ev (c : Int) (h0 : 0 ≤ c) (h1 : c < 256) : Ev (fun k => impl_digitOf.f k c) (hexC c) := by
  have H : ∀ k, impl_digitOf.f (k + 1) c = some (hexC c) := by
    intro k
    simp only [impl_digitOf.f, isDigit_eq, Option.bind_some, impl_digitOf.j0, hexC]
    by_cases a1 : 48 ≤ c <;> by_cases a2 : c ≤ 57 <;> by_cases a3 : 97 ≤ c <;> by_cases a4 : c ≤ 102 <;> by_cases a5 : 65 ≤ c <;> by_cases a6 : c ≤ 70
    all_goals first | (exfalso; omega) | (simp [digitC, a1, a2, a3, a4, a5, a6, ge_iff_le]; done) | (simp [digitC, a1, a2, a3, a4, a5, a6, ge_iff_le]; omega)
  exact Ev.step H (Ev.now _)
theorem l1HexOf_eq (c : Int) (h0 : 0 ≤ c) (h1 : c < 256) : spec_l1HexOf.f c = some (hexC c) := by
  have hw : wrap64 c = c := wrap_id (by omega) (by omega)
  simp only [spec_l1HexOf.f, l1Digit_eq c hw, Option.bind_some, hw, l1In_eq, hexC]
  by_cases q : digitC c = true
  · rw [if_pos q, if_pos q, wrap_id (by omega) (by omega)]
  · rw [if_neg q, if_neg q]
    by_cases q1 : 97 ≤ c ∧ c ≤ 102
    · rw [if_pos (by simpa using q1), if_pos q1, wrap_id (x := c - 97) (by omega) (by omega), wrap_id (by omega) (by omega)]; congr 1; omega
    · rw [if_neg (by simpa using q1), if_neg q1]
      by_cases q2 : 65 ≤ c ∧ c ≤ 70
      · rw [if_pos (by simpa using q2), if_pos q2, wrap_id (x := c - 65) (by omega) (by omega), wrap_id (by omega) (by omega)]; congr 1; omega
      · rw [if_neg (by simpa using q2), if_neg q2]

def phL : Nat → Int → List Int → Int × Bool
  | i, n, [] => (n, decide (i ≠ 0))
  | i, n, c :: r => if hexC c < 0 then (0, false) else if i ≥ 4 then (0, false) else phL (i + 1) (n * 16 + hexC c) r
def parseHex (s : ByteArray) : Int × Bool := phL 0 0 (bytesOf s)
theorem pow16 {i : Nat} (h : i ≤ 4) : (16 : Int) ^ i ≤ 65536 := by
  rcases i with _ | _ | _ | _ | _ | i
  all_goals first | omega | decide
theorem impl_ParseHex_ev (s : ByteArray) (hs : s.size ≤ 140737488351232) : Ev (fun k => impl_ParseHex.f k s) (parseHex s) := by
  refine str_loop_st s (fun i n k => impl_ParseHex.l0 k s n (i : Int)) phL (fun i n r => i ≤ 4 ∧ 0 ≤ n ∧ n < 16 ^ i ∧ i + r.length = s.size) ?_ ?_ hs 0 0 ⟨by omega, by omega, by simp, by simp [bytesOf_length]⟩
  · intro i n ⟨_, _, _, hl⟩ hi
    apply ev_succ; simp only [impl_ParseHex.l0, if_neg (show ¬ (i : Int) < s.size by omega)]
    have : (s.toList != ([] : List UInt8)) = decide (i ≠ 0) := by
      rw [Lib.toList_data]
      have h2 := data_length s
      simp at hl
      rw [Bool.eq_iff_iff]
      simp only [bne_iff_ne, ne_eq, decide_eq_true_eq]
      rw [← List.length_eq_zero_iff, h2, hl]
    rw [this]; exact Ev.now _
  · intro i n c r ⟨h4, h0, hn, hl⟩ h hb hi hw hw1 ih
    have hc := bytesOf_range s c (List.mem_of_mem_drop (by rw [h]; simp : c ∈ (bytesOf s).drop i))
    have hd := hexC_range c
    have h16 := pow16 h4
    apply ev_succ
    simp only [impl_ParseHex.l0, if_pos (show (i : Int) < s.size by omega), if_pos (show (0 : Int) ≤ i by omega), hb, hw1]
    refine Ev.bind (digitOf_ev c hc.1 hc.2) (ev_ite (fun q => ?_) (fun q => ev_ite (fun q1 => ?_) (fun q1 => ?_)))
    · simpa [phL, q] using Ev.now (0, false)
    · have : i ≥ 4 := by omega
      simpa [phL, q, this] using Ev.now (0, false)
    · have h5 : ¬ i ≥ 4 := by omega
      rw [wrap_id (x := 16 * n) (by omega) (by omega), wrap_id (by omega) (by omega)]
      have := ih (n * 16 + hexC c) ⟨by omega, by omega, by rw [Int.pow_succ]; omega, by simp at hl ⊢; omega⟩
      simp only [phL, if_neg q, if_neg h5]
      rw [show 16 * n + hexC c = n * 16 + hexC c by omega]; exact this
theorem spec_ParseHex_ev (s : ByteArray) (hs : s.size ≤ 140737488351232) : Ev (fun k => spec_ParseHex.f k s) (parseHex s) := by
  refine str_loop_st s (fun i n k => spec_ParseHex.l0 k s n (i : Int)) phL (fun i n r => i ≤ 4 ∧ 0 ≤ n ∧ n < 16 ^ i ∧ i + r.length = s.size) ?_ ?_ hs 0 0 ⟨by omega, by omega, by simp, by simp [bytesOf_length]⟩
  · intro i n ⟨h4, h0, hn, hl⟩ hi
    simp at hl
    apply ev_succ; simp only [spec_ParseHex.l0, if_neg (show ¬ (i : Int) < s.size by omega)]
    apply ev_succ; simp only [spec_ParseHex.j1, if_neg (show ¬ false = true by simp), l1In_eq, Option.bind_some, phL]
    by_cases q : i = 0
    · subst q
      have h1 : s.size = 0 := by omega
      have h2 : n = 0 := by simp at hn; omega
      subst h2
      simpa [h1] using Ev.now ((0 : Int), false)
    · simp only [decide_eq_true (show (1 : Int) ≤ s.size by omega), decide_eq_true (show (s.size : Int) ≤ 4 by omega), Bool.and_self, if_true]
      simpa [q] using Ev.now (n, true)
  · intro i n c r ⟨h4, h0, hn, hl⟩ h hb hi hw hw1 ih
    have hc := bytesOf_range s c (List.mem_of_mem_drop (by rw [h]; simp : c ∈ (bytesOf s).drop i))
    have hd := hexC_range c
    have h16 := pow16 h4
    apply ev_succ
    simp only [spec_ParseHex.l0, if_pos (show (i : Int) < s.size by omega)]
    apply ev_succ
    simp only [spec_ParseHex.j1, decide_eq_true (show (i : Int) < 5 by omega), if_true, if_pos (show (i : Int) < s.size by omega), if_pos (show (0 : Int) ≤ i by omega), hb, hw1, l1HexOf_eq c hc.1 hc.2, Option.bind_some]
    refine ev_ite (fun q => ?_) (fun q => ?_)
    · simpa [phL, q] using Ev.now ((0 : Int), false)
    · rw [wrap_id (x := n * 16) (by omega) (by omega), wrap_id (by omega) (by omega)]
      by_cases q1 : i ≥ 4
      · simp only [phL, if_neg q, if_pos q1]
        have e4 : i = 4 := by omega
        subst e4
        apply ev_succ
        simp at hl
        have h5 : (s.size : Int) ≥ 5 := by omega
        by_cases q2 : ((4 + 1 : Nat) : Int) < s.size
        · simp only [spec_ParseHex.l0, if_pos q2]
          apply ev_succ
          simp only [spec_ParseHex.j1, decide_eq_false (show ¬ ((4 + 1 : Nat) : Int) < 5 by decide), if_neg (show ¬ false = true by simp), l1In_eq, Option.bind_some]
          simpa [decide_eq_false (show ¬ (s.size : Int) ≤ 4 by omega)] using Ev.now ((0 : Int), false)
        · simp only [spec_ParseHex.l0, if_neg q2]
          apply ev_succ
          simp only [spec_ParseHex.j1, if_neg (show ¬ false = true by simp), l1In_eq, Option.bind_some]
          simpa [decide_eq_false (show ¬ (s.size : Int) ≤ 4 by omega)] using Ev.now ((0 : Int), false)
      · simp only [phL, if_neg q, if_neg q1]
        exact ih (n * 16 + hexC c) ⟨by omega, by omega, by rw [Int.pow_succ]; omega, by simp at hl ⊢; omega⟩

/-- a slice of bytes, as a law copies and compares it -/
theorem toByteS_ev (l : List Int) (hl : l.length ≤ 281474976710656) : Ev (fun k => laws_toByteS.f k l) l := by
  unfold laws_toByteS.f
  simp only [if_pos (show (0 : Int) ≤ (l.length : Int) by omega), Int.toNat_natCast, if_pos hl]
  have := fill_loop l (fun x => x) (0 : Int) (by omega) (fun i x k => laws_toByteS.l0 k l x (i : Int)) ?_ ?_
  · simpa using this
  · intro i x hi
    apply ev_succ; simp only [laws_toByteS.l0, if_neg (show ¬ (i : Int) < l.length by omega)]; exact Ev.now _
  · intro i x c r hi hx hb hw1 ih
    have hbb : rd l (i : Int) = c := hb _
    apply ev_succ
    simp only [laws_toByteS.l0, if_pos (show (i : Int) < l.length by omega), if_pos (show (0 : Int) ≤ i by omega), if_pos (show (i : Int) < x.length by omega), hbb, hw1]
    exact ih
theorem eqByteS_ev (a b : List Int) (ha : a.length ≤ 9223372036854775806) : Ev (fun k => laws_eqByteS.f k a b) (eqb a b) := by
  unfold laws_eqByteS.f
  refine ev_ite (fun q => ?_) (fun q => ?_)
  · have q' : a.length = b.length := by omega
    refine eq_loop a b (· = ·) q' ha (fun i k => laws_eqByteS.l0 k a b (i : Int)) _ ((eqb_iff a b).trans (list_eq_iff a b q')) ?_ ?_
    · intro i hi
      apply ev_succ; simp only [laws_eqByteS.l0, if_neg (show ¬ (i : Int) < a.length by omega)]; exact Ev.now _
    · intro i x y v hi hx hy hw1 ih
      have hxx : rd a (i : Int) = x := hx _
      have hyy : rd b (i : Int) = y := hy _
      refine ⟨fun hR => ?_, fun hR => ?_⟩
      · apply ev_succ
        simp only [laws_eqByteS.l0, if_pos (show (i : Int) < a.length by omega), if_pos (show (0 : Int) ≤ i by omega), if_pos (show (i : Int) < b.length by omega), hxx, hyy, hw1, if_pos hR]; exact ih
      · apply ev_succ
        simp only [laws_eqByteS.l0, if_pos (show (i : Int) < a.length by omega), if_pos (show (0 : Int) ≤ i by omega), if_pos (show (i : Int) < b.length by omega), hxx, hyy, hw1, if_neg hR]; exact Ev.now _
  · rw [eqb_ne (fun h => q (by rw [h]))]; exact Ev.now _
theorem wf_bytes {l : List Int} (h : ∀ x ∈ l, (Lit.int .u8 x).wf = true) : ∀ x ∈ l, 0 ≤ x ∧ x < 256 := by
  intro x hx
  have := h x hx
  simp [Lit.wf, IntKind.min, IntKind.max, IntKind.signed, IntKind.bits] at this
  omega

theorem in_eq (c a b : Int) : impl_in.f c a b = some (decide (a ≤ c) && decide (c ≤ b)) := by
  unfold impl_in.f; split <;> simp [*] <;> omega

theorem u8_eq {a : Int} (h0 : 0 ≤ a) (h1 : a < 256) (n : Nat) (hn : n < 256) : (UInt8.ofNat n == UInt8.ofNat a.toNat) = decide (a = n) := by
  rw [Bool.eq_iff_iff, beq_iff_eq, decide_eq_true_iff]
  constructor
  · intro h
    have := congrArg UInt8.toNat h
    simp only [UInt8.toNat_ofNat'] at this
    omega
  · rintro rfl; simp

theorem so_nil (r : List Int) : ((strOfNums r).toList = ([] : List UInt8)) ↔ r = [] := by
  rw [Lib.toList_data, strOfNums_data]; simp
theorem so_bytes (r : List Int) (hr : ∀ x ∈ r, 0 ≤ x ∧ x < 256) : bytesOf (strOfNums r) = r := bytesOf_strOfNums r hr
theorem so_bt {r : List Int} {a : Int} {t : List Int} (hr : ∀ x ∈ r, 0 ≤ x ∧ x < 256) (h : r = a :: t) : bt (strOfNums r) 0 = a :=
  (bt_drop (s := strOfNums r) (i := 0) (c := a) (r := t) (by rw [so_bytes r hr, h]; rfl)).1
theorem so_cut (r : List Int) (hr : ∀ x ∈ r, 0 ≤ x ∧ x < 256) (i j : Nat) : (strOfNums r).extract i j = strOfNums ((r.take j).drop i) := by
  apply bytesOf_inj
  rw [bytesOf_extract, so_bytes r hr, so_bytes _ (fun x hx => hr x (List.mem_of_mem_take (List.mem_of_mem_drop hx)))]
theorem so_from (r : List Int) (hr : ∀ x ∈ r, 0 ≤ x ∧ x < 256) (i : Nat) : (strOfNums r).extract i (strOfNums r).size = strOfNums (r.drop i) := by
  rw [so_cut r hr, strOfNums_size, List.take_length]
/-- a line's end -/
def endR : List Int → Int × List Int
  | [] => (1, [])
  | a :: t => if a = 13 then (match t with | [] => (1, []) | b :: u => if b = 10 then (0, u) else (400, b :: u)) else (400, a :: t)
theorem endR_zero {r : List Int} (h : (endR r).1 = 0) : r = 13 :: 10 :: (endR r).2 := by
  match r, h with
  | [], h => simp [endR] at h
  | [a], h => by_cases q : a = 13 <;> simp [endR, q] at h
  | a :: b :: u, h =>
    by_cases q : a = 13
    · by_cases q1 : b = 10
      · simp [endR, q, q1]
      · simp [endR, q, q1] at h
    · simp [endR, q] at h
theorem end_stop (i : Int) (s : ByteArray) (c : Int) (hc : c ≠ 0) : Ev (fun k => impl_chunks_end.l0 k i s c) (s, c) := by
  have hj : Ev (fun k => impl_chunks_end.j1 k i false s c) (s, c) := by
    apply ev_succ; simp only [impl_chunks_end.j1, Bool.false_eq_true, if_false]; exact Ev.now _
  apply ev_succ
  simp only [impl_chunks_end.l0, beq_eq_false_iff_ne.2 hc]
  exact ev_ite (fun _ => hj) (fun _ => hj)
theorem end_two (s : ByteArray) (c : Int) : Ev (fun k => impl_chunks_end.l0 k 2 s c) (s, c) := by
  apply ev_succ
  simp only [impl_chunks_end.l0, if_neg (show ¬ (2 : Int) < 2 by omega)]
  apply ev_succ; simp only [impl_chunks_end.j1, Bool.false_eq_true, if_false]; exact Ev.now _
theorem end_step (i b : Int) (hi0 : 0 ≤ i) (hi : i < 2) (hb : bt (⟨#[13, 10]⟩ : ByteArray) i = b) (r : List Int) (hr : ∀ x ∈ r, 0 ≤ x ∧ x < 256) (X : ByteArray × Int)
    (h0 : r = [] → X = (strOfNums r, 1)) (h1 : ∀ a t, r = a :: t → a ≠ b → X = (strOfNums r, 400))
    (h2 : ∀ t, r = b :: t → Ev (fun k => impl_chunks_end.l0 k (i + 1) (strOfNums t) 0) X) : Ev (fun k => impl_chunks_end.l0 k i (strOfNums r) 0) X := by
  have hw : wrap64 (i + 1) = i + 1 := wrap_id (by omega) (by omega)
  apply ev_succ
  simp only [impl_chunks_end.l0, if_pos hi, beq_self_eq_true]
  apply ev_succ
  simp only [impl_chunks_end.j1, if_true, hw, hb, if_pos hi0, if_pos hi]
  refine ev_ite (fun q => ?_) (fun q => ?_)
  · rw [so_nil] at q
    rw [h0 q]; exact end_stop _ _ _ (by omega)
  · rw [so_nil] at q
    match hm : r, q with
    | a :: t, _ =>
      have hs : (strOfNums (a :: t)).size = t.length + 1 := by rw [strOfNums_size]; rfl
      simp only [hs, if_pos (show (0 : Int) < ((t.length + 1 : Nat) : Int) by omega), so_bt hr rfl, if_pos (show (1 : Int) ≤ ((t.length + 1 : Nat) : Int) by omega)]
      refine ev_ite (fun q1 => ?_) (fun q1 => ?_)
      · subst q1
        have e := so_from (a :: t) hr 1
        rw [hs] at e
        rw [e]
        exact h2 t rfl
      · rw [h1 a t rfl q1]; exact end_stop _ _ _ (by omega)
theorem end_ev (r : List Int) (hr : ∀ x ∈ r, 0 ≤ x ∧ x < 256) : Ev (fun k => impl_chunks_end.f k (strOfNums r) 0) (strOfNums (endR r).2, (endR r).1) := by
  unfold impl_chunks_end.f
  refine end_step 0 13 (by omega) (by omega) rfl r hr _ (fun h => by rw [h]; rfl) (fun a t h q => by rw [h]; simp [endR, q]) (fun t h => ?_)
  have ht : ∀ x ∈ t, 0 ≤ x ∧ x < 256 := fun x hx => hr x (by rw [h]; simp [hx])
  refine end_step 1 10 (by omega) (by omega) rfl t ht _ (fun h1 => by rw [h, h1]; rfl) (fun a u h1 q => by rw [h, h1]; simp [endR, q]) (fun u h1 => ?_)
  rw [h, h1]
  exact end_two _ _
theorem rd_drop {l : List Int} {p : Nat} {a : Int} {t : List Int} (h : l.drop p = a :: t) : rd l (p : Int) = a ∧ p < l.length ∧ l.drop (p + 1) = t := by
  obtain ⟨h1, h2, h3, _⟩ := l_drop h
  exact ⟨h1 _, h2, h3⟩
theorem drop_nil {l : List Int} {p : Nat} (h : l.drop p = []) : l.length ≤ p := List.drop_eq_nil_iff.1 h
theorem l4End_eq (l : List Int) (p : Nat) (hl : l.length ≤ 9223372036854775000) : spec_l4End.f l (p : Int) = some (endR (l.drop p)).1 := by
  unfold spec_l4End.f
  match hd : l.drop p with
  | [] =>
    have := drop_nil hd
    rw [if_pos (by omega)]; rfl
  | a :: t =>
    obtain ⟨h1, h2, h3⟩ := rd_drop hd
    have hw : wrap64 ((p : Int) + 1) = ((p + 1 : Nat) : Int) := by rw [wrap_id (by omega) (by omega)]; rfl
    rw [if_neg (by omega), if_pos (by omega), if_pos (by omega), h1, hw]
    by_cases q : a = 13
    · rw [if_pos q]
      match hd2 : t with
      | [] =>
        have := drop_nil h3
        rw [if_pos (by omega)]; simp [endR, q]
      | b :: u =>
        obtain ⟨g1, g2, g3⟩ := rd_drop h3
        rw [if_neg (by omega), if_pos (by omega), if_pos (by omega), g1]
        by_cases q1 : b = 10
        · rw [if_pos q1]; simp [endR, q, q1]
        · rw [if_neg q1]; simp [endR, q, q1]
    · rw [if_neg q]; simp [endR, q]
/-- a piece's length, as text, and what stands behind it -/
def tw (r : List Int) : List Int := r.takeWhile fun c => decide (c ≠ 13)
def dw (r : List Int) : List Int := r.dropWhile fun c => decide (c ≠ 13)
theorem tw_dw (r : List Int) : tw r ++ dw r = r := List.takeWhile_append_dropWhile
theorem dw_head {r : List Int} {a : Int} {u : List Int} (h : dw r = a :: u) : a = 13 := by
  have := List.head_dropWhile_not (p := fun c : Int => decide (c ≠ 13)) (l := r) (by unfold dw at h; rw [h]; simp)
  unfold dw at h
  simp only [h, List.head_cons] at this
  simpa using this
theorem index13 : ∀ (r : List Int), (∀ x ∈ r, 0 ≤ x ∧ x < 256) → Lib.index (r.map fun n => UInt8.ofNat n.toNat) [13] = if dw r = [] then -1 else ((tw r).length : Int)
  | [], _ => rfl
  | c :: r, hr => by
    have hc := hr c (by simp)
    have ih := index13 r (fun x hx => hr x (by simp [hx]))
    have e := u8_eq hc.1 hc.2 13 (by omega)
    rw [List.map_cons, Lib.index]
    have c13 : (13 : UInt8) = UInt8.ofNat 13 := rfl
    simp only [List.isPrefixOf, Bool.and_true]
    rw [c13, e]
    by_cases q : c = ((13 : Nat) : Int)
    · have q' : c = 13 := q
      rw [decide_eq_true q, if_pos rfl, q']
      simp [dw, tw]
    · have q' : c ≠ 13 := q
      rw [decide_eq_false q, if_neg (by simp), ← c13, ih]
      have e1 : dw (c :: r) = dw r := by simp [dw, q']
      have e2 : tw (c :: r) = c :: tw r := by simp [tw, q']
      rw [e1, e2]
      by_cases q1 : dw r = []
      · simp [q1]
      · rw [if_neg q1, if_neg q1]
        rw [if_neg (by simp only [beq_iff_eq]; omega)]
        simp
theorem cut13 (r : List Int) (hr : ∀ x ∈ r, 0 ≤ x ∧ x < 256) (hl : r.length < 4294967281) : ∃ x, strings_Cut.f (strOfNums r) (⟨#[13]⟩ : ByteArray) = some (strOfNums (tw r), x, decide (dw r ≠ [])) := by
  unfold strings_Cut.f
  rw [if_pos (by rw [strOfNums_size]; exact hl)]
  refine ⟨⟨(Lib.cut (strOfNums r).data.toList [13]).2.1.toArray⟩, ?_⟩
  congr 1
  have hi := index13 r hr
  have hs : (strOfNums r).data.toList = r.map fun n => UInt8.ofNat n.toNat := by rw [strOfNums_data]
  have h13 : ((⟨#[13]⟩ : ByteArray).data.toList) = [13] := rfl
  refine Prod.ext ?_ (Prod.ext rfl ?_)
  · show (⟨(Lib.cut _ _).1.toArray⟩ : ByteArray) = _
    apply ByteArray.ext
    rw [hs, h13]
    unfold Lib.cut
    rw [hi]
    by_cases q : dw r = []
    · have ht : tw r = r := by have := tw_dw r; rw [q, List.append_nil] at this; exact this
      rw [if_pos q, if_neg (by omega), ht]
      apply Array.toList_inj.mp
      rw [strOfNums_data]
    · rw [if_neg q, if_pos (by omega)]
      apply Array.toList_inj.mp
      rw [strOfNums_data]
      simp only [Int.toNat_natCast]
      rw [← List.map_take]
      congr 1
      have := @List.take_left _ (tw r) (dw r)
      rw [tw_dw] at this
      exact this
  · show (Lib.cut _ _).2.2 = _
    rw [hs, h13]
    unfold Lib.cut
    rw [hi]
    by_cases q : dw r = []
    · rw [if_pos q, if_neg (by omega)]; simp [q]
    · rw [if_neg q, if_pos (by omega)]; simp [q]
def sizeR (r : List Int) : Int × List Int × Int :=
  if dw r = [] then ((phL 0 0 (tw r)).1, r, if tw r = [] ∨ (phL 0 0 (tw r)).2 = true then 1 else 400)
  else if (phL 0 0 (tw r)).2 = true then ((phL 0 0 (tw r)).1, (endR (dw r)).2, (endR (dw r)).1) else ((phL 0 0 (tw r)).1, r, 400)
theorem tw_range {r : List Int} (hr : ∀ x ∈ r, 0 ≤ x ∧ x < 256) : ∀ x ∈ tw r, 0 ≤ x ∧ x < 256 := fun x hx => hr x (by rw [← tw_dw r]; exact List.mem_append_left _ hx)
theorem dw_range {r : List Int} (hr : ∀ x ∈ r, 0 ≤ x ∧ x < 256) : ∀ x ∈ dw r, 0 ≤ x ∧ x < 256 := fun x hx => hr x (by rw [← tw_dw r]; exact List.mem_append_right _ hx)
theorem tw_len (r : List Int) : (tw r).length + (dw r).length = r.length := by rw [← List.length_append, tw_dw]
theorem dw_eq (r : List Int) : r.drop (tw r).length = dw r := by
  have := @List.drop_left _ (tw r) (dw r)
  rw [tw_dw] at this
  exact this
theorem size_ev (r : List Int) (hr : ∀ x ∈ r, 0 ≤ x ∧ x < 256) (hl : r.length ≤ 1048576) : Ev (fun k => impl_chunks_size.f k (strOfNums r) 0) ((sizeR r).1, strOfNums (sizeR r).2.1, (sizeR r).2.2) := by
  obtain ⟨x, hx⟩ := cut13 r hr (by omega)
  have htl := tw_len r
  unfold impl_chunks_size.f
  simp only [hx, Option.bind_some]
  have hp := impl_ParseHex_ev (strOfNums (tw r)) (by rw [strOfNums_size]; omega)
  unfold parseHex at hp
  rw [so_bytes _ (tw_range hr)] at hp
  refine Ev.bind hp ?_
  have hts : (strOfNums (tw r)).size = (tw r).length := strOfNums_size _
  have hrs : (strOfNums r).size = r.length := strOfNums_size _
  by_cases q : dw r = []
  · simp only [q, ne_eq, not_true_eq_false, decide_false, Bool.false_eq_true, if_false]
    apply ev_succ
    simp only [impl_chunks_size.j0, Bool.false_eq_true, if_false]
    unfold sizeR
    rw [if_pos q]
    refine ev_iteB (fun q1 => ?_) (fun q1 => ?_)
    · have q1' : tw r = [] := by
        rw [← so_nil]; simpa using q1
      rw [if_pos (.inl q1')]; exact Ev.now _
    · have q1' : tw r ≠ [] := by
        rw [ne_eq, ← so_nil]; simpa using q1
      refine ev_iteB (fun q2 => ?_) (fun q2 => ?_)
      · rw [if_pos (.inr q2)]; exact Ev.now _
      · rw [if_neg (by simp [q1', q2])]; exact Ev.now _
  · simp only [ne_eq, q, not_false_eq_true, decide_true, if_true]
    apply ev_succ
    simp only [impl_chunks_size.j0, Bool.false_eq_true, if_false, if_true]
    unfold sizeR
    rw [if_neg q]
    refine ev_iteB (fun q2 => ?_) (fun q2 => ?_)
    · simp only [hts, hrs, if_pos (show (0 : Int) ≤ ((tw r).length : Int) by omega), if_pos (show ((tw r).length : Int) ≤ (r.length : Int) by omega)]
      have e := so_from r hr (tw r).length
      rw [hrs, dw_eq] at e
      rw [e, if_pos q2]
      exact Ev.bind (end_ev (dw r) (dw_range hr)) (Ev.now _)
    · rw [if_neg (by simp [q2])]; exact Ev.now _
theorem phL_long : ∀ (t : List Int) (i : Nat) (n : Int), i ≤ 4 → 5 ≤ i + t.length → (phL i n t).2 = false
  | [], i, n, h, h5 => by simp at h5; omega
  | c :: r, i, n, h, h5 => by
    unfold phL
    split
    · rfl
    · split
      · rfl
      · exact phL_long r (i + 1) _ (by omega) (by simp at h5; omega)
theorem phL_range : ∀ (t : List Int) (i : Nat) (n : Int), i ≤ 4 → 0 ≤ n → n < 16 ^ i → 0 ≤ (phL i n t).1 ∧ (phL i n t).1 < 65536
  | [], i, n, h, h0, h1 => by have := pow16 h; simp only [phL]; omega
  | c :: r, i, n, h, h0, h1 => by
    have hd := hexC_range c
    have := pow16 h
    unfold phL
    split
    · simp
    · split
      · simp
      · rename_i q q4
        exact phL_range r (i + 1) _ (by omega) (by omega) (by rw [Int.pow_succ]; omega)
theorem spec_size_j3 (l : List Int) (hl : l.length ≤ 1048576) (hr : ∀ x ∈ l, 0 ≤ x ∧ x < 256) (p m : Nat) (hm : m ≤ 5) (X : Int × Int × Int) (hpm : p + m ≤ l.length)
    (h0 : l.drop (p + m + 1) = [] → X = (0, 0, 1)) (h1 : ∀ b u, l.drop (p + m + 1) = b :: u → b ≠ 10 → X = (0, 0, 400)) (h2 : ∀ u, l.drop (p + m + 1) = 10 :: u → X = ((phL 0 0 ((l.take (p + m)).drop p)).1, ((p + m + 2 : Nat) : Int), 0)) :
    Ev (fun k => spec_l4Size.j3 k l (p : Int) ((p + m : Nat) : Int)) X := by
  have hw : wrap64 (((p + m : Nat) : Int) + 1) = ((p + m + 1 : Nat) : Int) := by rw [wrap_id (by omega) (by omega)]; rfl
  have hw2 : wrap64 (((p + m : Nat) : Int) + 2) = ((p + m + 2 : Nat) : Int) := by rw [wrap_id (by omega) (by omega)]; rfl
  apply ev_succ
  simp only [spec_l4Size.j3, hw, hw2]
  match hd : l.drop (p + m + 1) with
  | [] =>
    have := drop_nil hd
    rw [h0 hd]
    refine ev_ite (fun _ => Ev.now _) (fun q => absurd q (by omega))
  | b :: u =>
    obtain ⟨g1, g2, g3⟩ := rd_drop hd
    simp only [if_neg (show ¬ ((p + m + 1 : Nat) : Int) ≥ (l.length : Int) by omega), if_pos (show (0 : Int) ≤ ((p + m + 1 : Nat) : Int) by omega), if_pos (show ((p + m + 1 : Nat) : Int) < (l.length : Int) by omega), g1]
    refine ev_ite (fun q => ?_) (fun q => ?_)
    · subst q
      rw [h2 u hd]
      simp only [if_pos (show (0 : Int) ≤ (p : Int) by omega), if_pos (show (p : Int) ≤ ((p + m : Nat) : Int) by omega), if_pos (show ((p + m : Nat) : Int) ≤ (l.length : Int) by omega), Int.toNat_natCast]
      have hp := spec_ParseHex_ev (strOfNums ((l.take (p + m)).drop p)) (by rw [strOfNums_size]; simp; omega)
      unfold parseHex at hp
      rw [so_bytes _ (fun x hx => hr x (List.mem_of_mem_take (List.mem_of_mem_drop hx)))] at hp
      exact Ev.bind hp (Ev.now _)
    · rw [h1 b u hd q]; exact Ev.now _
def sizeX (p : Nat) (r : List Int) : Int × Int × Int := if (sizeR r).2.2 = 0 then ((sizeR r).1, ((p + (tw r).length + 2 : Nat) : Int), 0) else (0, 0, (sizeR r).2.2)
theorem take_tw (r : List Int) : r.take (tw r).length = tw r := by
  have := @List.take_left _ (tw r) (dw r)
  rw [tw_dw] at this
  exact this
theorem spec_size_j1 (l : List Int) (hl : l.length ≤ 1048576) (hr : ∀ x ∈ l, 0 ≤ x ∧ x < 256) (p m : Nat) (hm : m = min 5 (tw (l.drop p)).length) (hp : p ≤ l.length) :
    Ev (fun k => spec_l4Size.j1 k l (p : Int) ((p + m : Nat) : Int)) (sizeX p (l.drop p)) := by
  have hw5 : wrap64 ((p : Int) + 5) = ((p + 5 : Nat) : Int) := by rw [wrap_id (by omega) (by omega)]; rfl
  have htl := tw_len (l.drop p)
  rw [List.length_drop] at htl
  have hrr : ∀ x ∈ l.drop p, 0 ≤ x ∧ x < 256 := fun x hx => hr x (List.mem_of_mem_drop hx)
  apply ev_succ
  simp only [spec_l4Size.j1, hw5]
  refine ev_ite (fun q => ?_) (fun q => ?_)
  · have hlong := phL_long (tw (l.drop p)) 0 0 (by omega) (by omega)
    have hne : tw (l.drop p) ≠ [] := by intro e; rw [e] at hm; simp at hm; omega
    have : sizeX p (l.drop p) = (0, 0, 400) := by
      unfold sizeX sizeR
      by_cases qd : dw (l.drop p) = []
      · rw [if_pos qd]; simp [hlong, hne]
      · rw [if_neg qd]; simp [hlong]
    rw [this]; exact Ev.now _
  · have hm' : m = (tw (l.drop p)).length := by omega
    have e1 : (l.take (p + m)).drop p = tw (l.drop p) := by
      rw [List.drop_take, show p + m - p = m by omega, hm', take_tw]
    have e2 : l.drop (p + m) = dw (l.drop p) := by
      rw [← List.drop_drop, hm', dw_eq]
    have hph := spec_ParseHex_ev (strOfNums ((l.take (p + m)).drop p)) (by rw [strOfNums_size, e1]; omega)
    unfold parseHex at hph
    rw [so_bytes _ (fun x hx => hr x (List.mem_of_mem_take (List.mem_of_mem_drop hx))), e1] at hph
    have e3 : l.drop (p + m + 1) = (dw (l.drop p)).drop 1 := by rw [← e2, List.drop_drop]
    have j3 := spec_size_j3 l hl hr p m (by omega)
    rw [e1, e3] at j3
    have j2 : ∀ X, ((phL 0 0 (tw (l.drop p))).2 = true → Ev (fun k => spec_l4Size.j3 k l (p : Int) ((p + m : Nat) : Int)) X) → ((phL 0 0 (tw (l.drop p))).2 = false → X = (0, 0, 400)) → Ev (fun k => spec_l4Size.j2 k l (p : Int) ((p + m : Nat) : Int) true) X := by
      intro X hy hn
      apply ev_succ
      simp only [spec_l4Size.j2, if_true, if_pos (show (0 : Int) ≤ (p : Int) by omega), if_pos (show (p : Int) ≤ ((p + m : Nat) : Int) by omega), if_pos (show ((p + m : Nat) : Int) ≤ (l.length : Int) by omega), Int.toNat_natCast, e1]
      exact Ev.bind hph (ev_iteB hy (fun h => by rw [hn h]; exact Ev.now _))
    by_cases qd : dw (l.drop p) = []
    · have hend : p + m = l.length := by rw [qd] at htl; simp at htl; omega
      simp only [if_neg (show ¬ ((p + m : Nat) : Int) < (l.length : Int) by omega)]
      rw [qd] at j3
      have hX : ∀ X, X = (0, 0, 1) → Ev (fun k => spec_l4Size.j3 k l (p : Int) ((p + m : Nat) : Int)) X := fun X hX => j3 X (by omega) (fun _ => hX) (fun b u h => by simp at h) (fun u h => by simp at h)
      by_cases q0 : tw (l.drop p) = []
      · have hm0 : m = 0 := by rw [hm', q0]; rfl
        simp only [decide_eq_false (show ¬ ((p + m : Nat) : Int) > (p : Int) by omega)]
        apply ev_succ
        simp only [spec_l4Size.j2, Bool.false_eq_true, if_false]
        exact hX _ (by unfold sizeX sizeR; rw [if_pos qd]; simp [q0])
      · have hm0 : 0 < m := by rw [hm']; exact List.length_pos_iff.2 q0
        simp only [decide_eq_true (show ((p + m : Nat) : Int) > (p : Int) by omega)]
        refine j2 _ (fun h => hX _ ?_) (fun h => ?_)
        · unfold sizeX sizeR; rw [if_pos qd]; simp [h]
        · unfold sizeX sizeR; rw [if_pos qd]; simp [h, q0]
    · match hdw : dw (l.drop p), qd with
      | a :: u, _ =>
        have ha := dw_head hdw
        subst ha
        rw [hdw] at htl j3
        simp at htl
        simp only [if_pos (show ((p + m : Nat) : Int) < (l.length : Int) by omega)]
        have hne : dw (l.drop p) ≠ [] := by rw [hdw]; simp
        refine j2 _ (fun h => ?_) (fun h => ?_)
        · refine j3 _ (by omega) (fun hu => ?_) (fun b v hu q1 => ?_) (fun v hu => ?_)
          · simp at hu
            unfold sizeX sizeR; rw [if_neg hne, if_pos h, hdw, hu]; simp [endR]
          · simp at hu
            unfold sizeX sizeR; rw [if_neg hne, if_pos h, hdw, hu]; simp [endR, q1]
          · simp at hu
            unfold sizeX sizeR; rw [if_neg hne, if_pos h, hdw, hu, hm']; simp [endR]
        · unfold sizeX sizeR; rw [if_neg hne]; simp [h]
theorem tw_ne {r : List Int} {a : Int} (h : a ∈ tw r) : a ≠ 13 := by
  have h1 := List.all_eq_true.1 (List.all_takeWhile (p := fun c : Int => decide (c ≠ 13)) (l := r)) a h
  simpa using h1
theorem spec_size_l0 (l : List Int) (p j : Nat) (X : Int × Int × Int) (hl : l.length ≤ 1048576) (hp : p ≤ l.length) (hj5 : j ≤ 5)
    (h0 : l.drop (p + j) = [] → Ev (fun k => spec_l4Size.j1 k l (p : Int) ((p + j : Nat) : Int)) X) (h1 : ∀ u, l.drop (p + j) = 13 :: u → Ev (fun k => spec_l4Size.j1 k l (p : Int) ((p + j : Nat) : Int)) X) (h5 : j = 5 → Ev (fun k => spec_l4Size.j1 k l (p : Int) ((p + j : Nat) : Int)) X)
    (h2 : ∀ a u, l.drop (p + j) = a :: u → a ≠ 13 → j < 5 → Ev (fun k => spec_l4Size.l0 k l (p : Int) ((p + (j + 1) : Nat) : Int)) X) :
    Ev (fun k => spec_l4Size.l0 k l (p : Int) ((p + j : Nat) : Int)) X := by
  have hw5 : wrap64 ((p : Int) + 5) = ((p + 5 : Nat) : Int) := by rw [wrap_id (by omega) (by omega)]; rfl
  apply ev_succ
  simp only [spec_l4Size.l0, hw5]
  refine ev_ite (fun q1 => ev_ite (fun q2 => ?_) (fun q2 => h5 (by omega))) (fun q1 => h0 (List.drop_eq_nil_iff.2 (by omega)))
  have q3 : j < 5 := by omega
  have q4 : (0 : Int) ≤ ((p + j : Nat) : Int) := by omega
  have hw1 : wrap64 (((p + j : Nat) : Int) + 1) = ((p + (j + 1) : Nat) : Int) := by rw [wrap_id (by omega) (by omega)]; omega
  have q5 : ¬ l.length ≤ p + j := by omega
  simp only [if_pos q4, hw1]
  match hd : l.drop (p + j) with
  | [] => exact absurd (drop_nil hd) q5
  | a :: u =>
    have g1 := (rd_drop hd).1
    simp only [g1]
    refine ev_ite (fun q => ?_) (fun q => h2 a u hd q q3)
    exact h1 u (by rw [hd, q])
theorem spec_size_ev (l : List Int) (hl : l.length ≤ 1048576) (hr : ∀ x ∈ l, 0 ≤ x ∧ x < 256) (p : Nat) (hp : p ≤ l.length) :
    Ev (fun k => spec_l4Size.f k l (p : Int)) (sizeX p (l.drop p)) := by
  obtain ⟨m, hm⟩ : ∃ m, m = min 5 (tw (l.drop p)).length := ⟨_, rfl⟩
  have hj1 := spec_size_j1 l hl hr p m hm hp
  have h5 : m ≤ 5 := by omega
  have key : ∀ n j, j + n = m → Ev (fun k => spec_l4Size.l0 k l (p : Int) ((p + j : Nat) : Int)) (sizeX p (l.drop p)) := by
    intro n
    induction n with
    | zero =>
      intro j hj
      obtain rfl : j = m := by omega
      refine spec_size_l0 l p j _ hl hp h5 (fun _ => hj1) (fun _ _ => hj1) (fun _ => hj1) (fun a u h q q5 => ?_)
      have e2 : l.drop (p + j) = dw (l.drop p) := by
        rw [← List.drop_drop, show j = (tw (l.drop p)).length by omega, dw_eq]
      rw [e2] at h
      exact absurd (dw_head h) q
    | succ n ih =>
      intro j hj
      have hjt : j < (tw (l.drop p)).length := by omega
      have e2 : l.drop (p + j) = (tw (l.drop p)).drop j ++ dw (l.drop p) := by
        have e := @List.drop_append_of_le_length _ (tw (l.drop p)) (dw (l.drop p)) j (by omega)
        rw [tw_dw, List.drop_drop] at e
        exact e
      have hj6 : j + 1 + n = m := by omega
      have hj5 : j ≤ 5 := by omega
      have hj7 : j ≠ 5 := by omega
      match hd : (tw (l.drop p)).drop j with
      | [] => exact absurd (drop_nil hd) (by omega)
      | a :: u =>
        have ha := tw_ne (List.mem_of_mem_drop (by rw [hd]; simp : a ∈ (tw (l.drop p)).drop j))
        rw [hd] at e2
        refine spec_size_l0 l p j _ hl hp hj5 (fun h => ?_) (fun v h => ?_) (fun h => absurd h hj7) (fun _ _ _ _ _ => ih (j + 1) hj6)
        · rw [e2] at h; simp at h
        · rw [e2] at h; simp only [List.cons_append, List.cons.injEq] at h; exact absurd h.1 ha
  exact key m 0 (by omega)

theorem impl_j1_bad (l : List Int) (x : ByteArray) (n : Int) (s : ByteArray) (c : Int) (hc : c ≠ 0) : Ev (fun k => impl_GetChunks.j1 k l x n s c) ((⟨#[]⟩ : ByteArray), 0, c) := by
  apply ev_succ
  simp only [impl_GetChunks.j1, if_neg hc]
  exact Ev.now _
theorem phL_range0 (t : List Int) : 0 ≤ (phL 0 0 t).1 ∧ (phL 0 0 t).1 < 65536 := phL_range t 0 0 (by omega) (by omega) (by simp)
theorem sizeR_n (r : List Int) : (sizeR r).1 = (phL 0 0 (tw r)).1 := by
  unfold sizeR
  split
  · rfl
  · split <;> rfl
theorem sizeR_good {r : List Int} (h : (sizeR r).2.2 = 0) : dw r = 13 :: 10 :: (sizeR r).2.1 := by
  unfold sizeR at h ⊢
  by_cases q : dw r = []
  · rw [if_pos q] at h
    simp only at h
    split at h <;> omega
  · rw [if_neg q] at h ⊢
    by_cases q1 : (phL 0 0 (tw r)).2 = true
    · rw [if_pos q1] at h ⊢
      exact endR_zero h
    · rw [if_neg q1] at h
      simp at h
theorem chunk_tail (l : List Int) (hl : l.length ≤ 1048576) (hr : ∀ x ∈ l, 0 ≤ x ∧ x < 256) (q n : Nat) (hql : q ≤ l.length) (hn' : n < 65536) (x : ByteArray) (hx : x.size ≤ 200)
    (next : ∀ (y : ByteArray), q + n + 2 ≤ l.length → y.size ≤ 200 → ∃ X, Ev (fun k => impl_GetChunks.l0 k l y (strOfNums (l.drop (q + n + 2))) 0) X ∧ Ev (fun k => spec_GetChunks.l0 k l ((q + n + 2 : Nat) : Int) y) X) :
    ∃ X, Ev (fun k => if ((x.size + n : Nat) : Int) > 200 then (impl_GetChunks.j1 k l x (n : Int) (strOfNums (l.drop q)) 413) else (if (n : Int) > ((l.length - q : Nat) : Int) then (impl_GetChunks.j1 k l x (n : Int) (strOfNums (l.drop q)) 1) else (if (0 : Int) ≤ (n : Int) then (if (n : Int) ≤ ((l.length - q : Nat) : Int) then (if x.size + ((strOfNums (l.drop q)).extract 0 n).size ≤ 9223372036854775807 then ((impl_chunks_end.f k ((strOfNums (l.drop q)).extract n (l.length - q)) 0).bind fun bt143 => (impl_GetChunks.j1 k l (x ++ ((strOfNums (l.drop q)).extract 0 n)) (n : Int) bt143.1 bt143.2)) else (none)) else (none)) else (none)))) X ∧
      Ev (fun k => if ((x.size + n : Nat) : Int) > 200 then (some ((⟨#[]⟩ : ByteArray), 0, 413)) else (if (n : Int) > ((l.length - q : Nat) : Int) then (some ((⟨#[]⟩ : ByteArray), 0, 1)) else (if (0 : Int) ≤ (q : Int) then (if (q : Int) ≤ ((q + n : Nat) : Int) then (if ((q + n : Nat) : Int) ≤ (l.length : Int) then (if x.size + (strOfNums ((l.take (q + n)).drop q)).size ≤ 9223372036854775807 then ((spec_l4End.f l ((q + n : Nat) : Int)).bind fun t122 => (if t122 = 0 then (if (n : Int) = 0 then (some (x ++ (strOfNums ((l.take (q + n)).drop q)), ((q + n + 2 : Nat) : Int), 0)) else (spec_GetChunks.l0 k l ((q + n + 2 : Nat) : Int) (x ++ (strOfNums ((l.take (q + n)).drop q))))) else (some ((⟨#[]⟩ : ByteArray), 0, t122)))) else (none)) else (none)) else (none)) else (none)))) X := by
  by_cases q1 : x.size + n > 200
  · have b1 : ((x.size + n : Nat) : Int) > 200 := by omega
    refine ⟨((⟨#[]⟩ : ByteArray), 0, 413), ?_, ?_⟩
    · simp only [if_pos b1]; exact impl_j1_bad _ _ _ _ _ (by decide)
    · simp only [if_pos b1]; exact Ev.now _
  have b1 : ¬ ((x.size + n : Nat) : Int) > 200 := by omega
  by_cases q2 : n > l.length - q
  · have b2 : (n : Int) > ((l.length - q : Nat) : Int) := by omega
    refine ⟨((⟨#[]⟩ : ByteArray), 0, 1), ?_, ?_⟩
    · simp only [if_neg b1, if_pos b2]; exact impl_j1_bad _ _ _ _ _ (by decide)
    · simp only [if_neg b1, if_pos b2]; exact Ev.now _
  have b2 : ¬ (n : Int) > ((l.length - q : Nat) : Int) := by omega
  have b3 : (0 : Int) ≤ (n : Int) := by omega
  have b4 : (n : Int) ≤ ((l.length - q : Nat) : Int) := by omega
  have b5 : x.size + n ≤ 9223372036854775807 := by omega
  have b6 : (0 : Int) ≤ (q : Int) := by omega
  have b7 : (q : Int) ≤ ((q + n : Nat) : Int) := by omega
  have b8 : ((q + n : Nat) : Int) ≤ (l.length : Int) := by omega
  have b9 : x.size + n ≤ 200 := by omega
  have b10 : q + n - q = n := by omega
  have b11 : l.length ≤ 9223372036854775000 := by omega
  have b12 : min n (l.length - q) = n := by omega
  have b13 : ∀ m : Nat, m ≤ l.length → wrap64 ((l.length : Int) - ((l.length - m : Nat) : Int)) = (m : Int) := by
    intro m hm
    rw [wrap_id (by omega) (by omega)]; omega
  have hlen : (l.drop q).length = l.length - q := List.length_drop
  have hqr : ∀ z ∈ l.drop q, 0 ≤ z ∧ z < 256 := fun z hz => hr z (List.mem_of_mem_drop hz)
  have e1 : (strOfNums (l.drop q)).extract 0 n = strOfNums ((l.drop q).take n) := by rw [so_cut _ hqr]; rfl
  have e2 : (strOfNums (l.drop q)).extract n (l.length - q) = strOfNums (l.drop (q + n)) := by
    have := so_from _ hqr n
    rw [strOfNums_size, hlen, List.drop_drop] at this
    exact this
  have e3 : (l.take (q + n)).drop q = (l.drop q).take n := by rw [List.drop_take, b10]
  have hsz1 : (strOfNums ((l.drop q).take n)).size = n := by rw [strOfNums_size, List.length_take, hlen, b12]
  have hend := end_ev (l.drop (q + n)) (fun z hz => hr z (List.mem_of_mem_drop hz))
  have hsend := l4End_eq l (q + n) b11
  simp only [if_neg b1, if_neg b2, if_pos b3, if_pos b4, if_pos b6, if_pos b7, if_pos b8, e1, e2, e3, hsz1, if_pos b5, hsend, Option.bind_some]
  by_cases hc2 : (endR (l.drop (q + n))).1 = 0
  · have hz := endR_zero hc2
    have hz2 : l.drop (q + n + 2) = (endR (l.drop (q + n))).2 := by rw [← List.drop_drop, hz]; rfl
    have hz3 : q + n + 2 ≤ l.length := by
      have h1 := congrArg List.length hz
      rw [List.length_drop, List.length_cons, List.length_cons] at h1
      revert h1
      generalize (endR (l.drop (q + n))).2.length = z
      clear hz hz2 hc2 hend hsend
      intro h1
      omega
    rw [← hz2, hc2] at hend
    simp only [hc2, if_true]
    rcases Nat.eq_zero_or_pos n with hn0 | hn0
    · subst hn0
      refine ⟨(x ++ strOfNums ((l.drop q).take 0), ((q + 0 + 2 : Nat) : Int), 0), Ev.bind hend ?_, ?_⟩
      · apply ev_succ
        simp only [impl_GetChunks.j1, if_true, strOfNums_size, List.length_drop]
        rw [b13 _ hz3]
        exact Ev.now _
      · exact Ev.now _
    · have b14 : ¬ (n : Int) = 0 := by
        clear hz hz2 hc2 hend hsend
        omega
      obtain ⟨X, hI, hS⟩ := next (x ++ strOfNums ((l.drop q).take n)) hz3 (by rw [ByteArray.size_append, hsz1]; exact b9)
      refine ⟨X, Ev.bind hend ?_, ?_⟩
      · apply ev_succ
        simp only [impl_GetChunks.j1, if_true, if_neg b14]
        exact hI
      · simp only [if_neg b14]; exact hS
  · simp only [if_neg hc2]
    exact ⟨((⟨#[]⟩ : ByteArray), 0, (endR (l.drop (q + n))).1), Ev.bind hend (impl_j1_bad _ _ _ _ _ hc2), Ev.now _⟩
theorem chunk_step (l : List Int) (hl : l.length ≤ 1048576) (hr : ∀ x ∈ l, 0 ≤ x ∧ x < 256) (p : Nat) (hp : p ≤ l.length) (x : ByteArray) (hx : x.size ≤ 200)
    (next : ∀ (q : Nat) (y : ByteArray), p < q → q ≤ l.length → y.size ≤ 200 → ∃ X, Ev (fun k => impl_GetChunks.l0 k l y (strOfNums (l.drop q)) 0) X ∧ Ev (fun k => spec_GetChunks.l0 k l (q : Int) y) X) :
    ∃ X, Ev (fun k => impl_GetChunks.l0 k l x (strOfNums (l.drop p)) 0) X ∧ Ev (fun k => spec_GetChunks.l0 k l (p : Int) x) X := by
  have hrr : ∀ z ∈ l.drop p, 0 ≤ z ∧ z < 256 := fun z hz => hr z (List.mem_of_mem_drop hz)
  have hsz := size_ev (l.drop p) hrr (by rw [List.length_drop]; omega)
  have hsp := spec_size_ev l hl hr p hp
  have hx' : (x.size : Int) ≤ 200 := by omega
  by_cases hc : (sizeR (l.drop p)).2.2 = 0
  · have hgood := sizeR_good hc
    have hn := phL_range0 (tw (l.drop p))
    rw [← sizeR_n] at hn
    have hsX : sizeX p (l.drop p) = ((sizeR (l.drop p)).1, ((p + (tw (l.drop p)).length + 2 : Nat) : Int), 0) := by unfold sizeX; rw [if_pos hc]
    rw [hsX] at hsp
    have htl := tw_len (l.drop p)
    rw [hgood, List.length_drop] at htl
    simp only [List.length_cons] at htl
    obtain ⟨q, hq⟩ : ∃ q, q = p + (tw (l.drop p)).length + 2 := ⟨_, rfl⟩
    rw [← hq] at hsp
    have hrest : l.drop q = (sizeR (l.drop p)).2.1 := by
      have e : l.drop (p + (tw (l.drop p)).length) = 13 :: 10 :: (sizeR (l.drop p)).2.1 := by rw [← List.drop_drop, dw_eq, hgood]
      rw [hq, show p + (tw (l.drop p)).length + 2 = (p + (tw (l.drop p)).length) + 2 from rfl, ← List.drop_drop, e]; rfl
    obtain ⟨n, hnn⟩ : ∃ n : Nat, (sizeR (l.drop p)).1 = (n : Int) := ⟨(sizeR (l.drop p)).1.toNat, by omega⟩
    rw [hc, ← hrest, hnn] at hsz
    rw [hnn] at hsp
    have hn' : n < 65536 := by omega
    have hql : q ≤ l.length := by omega
    have hpq : p < q := by omega
    have hlen : (l.drop q).length = l.length - q := List.length_drop
    have hss : (strOfNums (l.drop q)).size = l.length - q := by rw [strOfNums_size, hlen]
    have hqr : ∀ z ∈ l.drop q, 0 ≤ z ∧ z < 256 := fun z hz => hr z (List.mem_of_mem_drop hz)
    clear hrest hgood hsX htl hq hn hnn hrr hc hlen
    have hw : wrap64 ((x.size : Int) + (n : Int)) = ((x.size + n : Nat) : Int) := by rw [wrap_id (by omega) (by omega)]; omega
    have hwl : wrap64 ((l.length : Int) - (q : Int)) = ((l.length - q : Nat) : Int) := by rw [wrap_id (by omega) (by omega)]; omega
    have hwq : wrap64 ((q : Int) + (n : Int)) = ((q + n : Nat) : Int) := by rw [wrap_id (by omega) (by omega)]; omega
    have hwq2 : wrap64 (((q + n : Nat) : Int) + 2) = ((q + n + 2 : Nat) : Int) := by rw [wrap_id (by omega) (by omega)]; rfl
    have goI : ∀ X, Ev (fun k => if (wrap64 ((x.size : Int) + (n : Int))) > 200 then (impl_GetChunks.j1 k l x (n : Int) (strOfNums (l.drop q)) 413) else (if (n : Int) > ((strOfNums (l.drop q)).size : Int) then (impl_GetChunks.j1 k l x (n : Int) (strOfNums (l.drop q)) 1) else (if (0 : Int) ≤ (n : Int) then (if (n : Int) ≤ ((strOfNums (l.drop q)).size : Int) then (if x.size + ((strOfNums (l.drop q)).extract 0 (n : Int).toNat).size ≤ 9223372036854775807 then ((impl_chunks_end.f k ((strOfNums (l.drop q)).extract (n : Int).toNat (strOfNums (l.drop q)).size) 0).bind fun bt143 => (impl_GetChunks.j1 k l (x ++ ((strOfNums (l.drop q)).extract 0 (n : Int).toNat)) (n : Int) bt143.1 bt143.2)) else (none)) else (none)) else (none)))) X → Ev (fun k => impl_GetChunks.l0 k l x (strOfNums (l.drop p)) 0) X := by
      intro X h
      apply ev_succ
      simp only [impl_GetChunks.l0]
      refine Ev.bind hsz ?_
      simp only [if_true]
      exact h
    have goS : ∀ X, Ev (fun k => if (wrap64 ((x.size : Int) + (n : Int))) > 200 then (some ((⟨#[]⟩ : ByteArray), 0, 413)) else (if (n : Int) > (wrap64 ((l.length : Int) - (q : Int))) then (some ((⟨#[]⟩ : ByteArray), 0, 1)) else (if (0 : Int) ≤ (q : Int) then (if (q : Int) ≤ (wrap64 ((q : Int) + (n : Int))) then (if (wrap64 ((q : Int) + (n : Int))) ≤ (l.length : Int) then (if x.size + (strOfNums ((l.take ((wrap64 ((q : Int) + (n : Int))) : Int).toNat).drop (q : Int).toNat)).size ≤ 9223372036854775807 then ((spec_l4End.f l (wrap64 ((q : Int) + (n : Int)))).bind fun t122 => (if t122 = 0 then (if (n : Int) = 0 then (some (x ++ (strOfNums ((l.take ((wrap64 ((q : Int) + (n : Int))) : Int).toNat).drop (q : Int).toNat)), wrap64 ((wrap64 ((q : Int) + (n : Int))) + 2), 0)) else (spec_GetChunks.l0 k l (wrap64 ((wrap64 ((q : Int) + (n : Int))) + 2)) (x ++ (strOfNums ((l.take ((wrap64 ((q : Int) + (n : Int))) : Int).toNat).drop (q : Int).toNat))))) else (some ((⟨#[]⟩ : ByteArray), 0, t122)))) else (none)) else (none)) else (none)) else (none)))) X → Ev (fun k => spec_GetChunks.l0 k l (p : Int) x) X := by
      intro X h
      apply ev_succ
      simp only [spec_GetChunks.l0, if_pos hx']
      refine Ev.bind hsp ?_
      simp only [if_true]
      exact h
    simp only [hw, hwl, hwq, hwq2, hss, Int.toNat_natCast] at goI goS
    clear hw hwl hwq hwq2 hss
    have b : p < q + n + 2 := Nat.lt_of_lt_of_le hpq (by rw [Nat.add_assoc]; exact Nat.le_add_right _ _)
    obtain ⟨X, hI, hS⟩ := chunk_tail l hl hr q n hql hn' x hx (fun y h1 h2 => next _ y b h1 h2)
    exact ⟨X, goI X hI, goS X hS⟩
  · refine ⟨((⟨#[]⟩ : ByteArray), 0, (sizeR (l.drop p)).2.2), ?_, ?_⟩
    · apply ev_succ
      simp only [impl_GetChunks.l0]
      refine Ev.bind hsz ?_
      simp only [if_neg hc]
      exact impl_j1_bad _ _ _ _ _ hc
    · have hsX : sizeX p (l.drop p) = (0, 0, (sizeR (l.drop p)).2.2) := by unfold sizeX; rw [if_neg hc]
      rw [hsX] at hsp
      apply ev_succ
      simp only [spec_GetChunks.l0, if_pos hx']
      refine Ev.bind hsp ?_
      simp only [if_neg hc]
      exact Ev.now _
theorem chunks_ev (l : List Int) (hl : l.length ≤ 1048576) (hr : ∀ x ∈ l, 0 ≤ x ∧ x < 256) : ∀ (n p : Nat) (x : ByteArray), p ≤ l.length → l.length - p ≤ n → x.size ≤ 200 →
    ∃ X, Ev (fun k => impl_GetChunks.l0 k l x (strOfNums (l.drop p)) 0) X ∧ Ev (fun k => spec_GetChunks.l0 k l (p : Int) x) X
  | 0, p, x, hp, hn, hx => chunk_step l hl hr p hp x hx (fun q y h1 h2 _ => by omega)
  | n + 1, p, x, hp, hn, hx => chunk_step l hl hr p hp x hx (fun q y h1 h2 h3 => chunks_ev l hl hr n q y h2 (by omega) h3)
theorem GetChunks_ev (l : List Int) (hl : l.length ≤ 1048576) (hr : ∀ x ∈ l, 0 ≤ x ∧ x < 256) (p : Int) : ∃ X, Ev (fun k => impl_GetChunks.f k l p) X ∧ Ev (fun k => spec_GetChunks.f k l p) X := by
  unfold impl_GetChunks.f spec_GetChunks.f
  simp only [l1In_eq, in_eq, Option.bind_some]
  by_cases q : 0 ≤ p ∧ p ≤ (l.length : Int)
  · obtain ⟨X, h1, h2⟩ := chunks_ev l hl hr l.length p.toNat (⟨#[]⟩ : ByteArray) (by omega) (by omega) (by decide)
    rw [Int.toNat_of_nonneg q.1] at h2
    simp only [decide_eq_true q.1, decide_eq_true q.2, Bool.and_self, if_true, if_pos q.1, if_pos q.2]
    exact ⟨X, h1, h2⟩
  · have : (decide (0 ≤ p) && decide (p ≤ (l.length : Int))) = false := by
      rw [Bool.and_eq_false_iff]
      rcases Classical.not_and_iff_not_or_not.1 q with h | h
      · exact .inl (decide_eq_false h)
      · exact .inr (decide_eq_false h)
    simp only [this, Bool.false_eq_true, if_false]
    exact ⟨_, Ev.now _, Ev.now _⟩

theorem FnExactGetChunks : laws_FnExactGetChunks.Pure := by
  intro l p hl0 hl hp
  apply Ev.rounds
  unfold laws_FnExactGetChunks.f
  refine ev_ite (fun _ => Ev.now _) (fun q => ?_)
  have hr := wf_bytes hl0.2
  have c := toByteS_ev l (by omega)
  obtain ⟨X, hI, hS⟩ := GetChunks_ev l (by omega) hr p
  refine Ev.bind c (Ev.bind hS (Ev.bind c (Ev.bind hI ?_)))
  simp only [if_true, bne_self_eq_false]
  apply ev_succ
  simp only [laws_FnExactGetChunks.j0, Bool.false_eq_true, if_false]
  exact Ev.bind c (Ev.bind (eqByteS_ev l l (by omega)) (ev_ite (fun _ => Ev.now _) (fun q => absurd (eqb_self l) q)))

end Go.Proofs.Ytkjlbkfnhmeoeab.Pure
