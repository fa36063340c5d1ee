/- FeedAll answers as the reference does, keeps what it was given, and shares no memory, for all arguments within the law's bounds; no condition. -/
import Derived.Test.YtaajhdljdmbhhaaGreatDoorGFnExactFeedAllx20
import Derived.Test.YtaajhdljdmbhhaaGreatDoorBase
import Derived.Lib.IndexMore
import Derived.Lib.Index
import Derived.Lib.SplitLaws
import Derived.Lib.IndexBytes
import Derived.Lib.ItoaNum
import Derived.Lib.AtoiTie
import Derived.Lib.Bytealg
import Derived.Lib.SlTrimSet
namespace Go.Proofs.YtaajhdljdmbhhaaGreatDoor.Pure
open Go.RowKit Go.Proofs.YtaajhdljdmbhhaaGreatDoor.GFnExactFeedAll Go.Proofs.YtaajhdljdmbhhaaGreatDoor.Base Go.Proofs.YtaajhdljdmbhhaaGreatDoorW.PrintWords Go.Proofs.YtaajhdljdmbhhaaGreatDoorW.PrintLast
set_option linter.unusedVariables false
set_option linter.unusedSimpArgs false


/-- byte classes -/
def plainC (c : Int) : Bool := decide (32 ≤ c) && decide (c ≤ 126)
def smallC (c : Int) : Bool := decide (97 ≤ c) && decide (c ≤ 122)
def digitC (c : Int) : Bool := decide (48 ≤ c) && decide (c ≤ 57)
def largeC (c : Int) : Bool := decide (65 ≤ c) && decide (c ≤ 90)

theorem l1In_eq (c a b : Int) : spec_l1In.f c a b = some (decide (a ≤ c) && decide (c ≤ b)) := by
  unfold spec_l1In.f; split <;> simp [*] <;> omega

theorem l1Digit_eq (c : Int) (h : wrap64 c = c) : spec_l1Digit.f c = some (digitC c) := by
  unfold spec_l1Digit.f; rw [h, l1In_eq]; rfl

theorem isDigit_eq (c : Int) : impl_isDigit.f c = some (digitC c) := by
  unfold impl_isDigit.f digitC; split <;> simp [*] <;> omega

/-- a digit's worth to the base 16, or -1 -/
def hexC (c : Int) : Int := if digitC c = true then c - 48 else if 97 ≤ c ∧ c ≤ 102 then c - 87 else if 65 ≤ c ∧ c ≤ 70 then c - 55 else -1
theorem hexC_range (c : Int) : -1 ≤ hexC c ∧ hexC c < 16 := by
  unfold hexC digitC
  split
  · rename_i h; simp at h; omega
  · split
    · omega
    · split <;> omega
theorem digitOf_ev (c : Int) (h0 : 0 ≤ c) (h1 : c < 256) : Ev (fun k => impl_digitOf.f k c) (hexC c) := by
  have H : ∀ k, impl_digitOf.f (k + 1) c = some (hexC c) := by
    intro k
    simp only [impl_digitOf.f, isDigit_eq, Option.bind_some, impl_digitOf.j0, hexC]
    by_cases a1 : 48 ≤ c <;> by_cases a2 : c ≤ 57 <;> by_cases a3 : 97 ≤ c <;> by_cases a4 : c ≤ 102 <;> by_cases a5 : 65 ≤ c <;> by_cases a6 : c ≤ 70
    all_goals first | (exfalso; omega) | (simp [digitC, a1, a2, a3, a4, a5, a6, ge_iff_le]; done) | (simp [digitC, a1, a2, a3, a4, a5, a6, ge_iff_le]; omega)
  exact Ev.step H (Ev.now _)
theorem l1HexOf_eq (c : Int) (h0 : 0 ≤ c) (h1 : c < 256) : spec_l1HexOf.f c = some (hexC c) := by
  have hw : wrap64 c = c := wrap_id (by omega) (by omega)
  simp only [spec_l1HexOf.f, l1Digit_eq c hw, Option.bind_some, hw, l1In_eq, hexC]
  by_cases q : digitC c = true
  · rw [if_pos q, if_pos q, wrap_id (by omega) (by omega)]
  · rw [if_neg q, if_neg q]
    by_cases q1 : 97 ≤ c ∧ c ≤ 102
    · rw [if_pos (by simpa using q1), if_pos q1, wrap_id (x := c - 97) (by omega) (by omega), wrap_id (by omega) (by omega)]; congr 1; omega
    · rw [if_neg (by simpa using q1), if_neg q1]
      by_cases q2 : 65 ≤ c ∧ c ≤ 70
      · rw [if_pos (by simpa using q2), if_pos q2, wrap_id (x := c - 65) (by omega) (by omega), wrap_id (by omega) (by omega)]; congr 1; omega
      · rw [if_neg (by simpa using q2), if_neg q2]

def phL : Nat → Int → List Int → Int × Bool
  | i, n, [] => (n, decide (i ≠ 0))
  | i, n, c :: r => if hexC c < 0 then (0, false) else if i ≥ 4 then (0, false) else phL (i + 1) (n * 16 + hexC c) r
def parseHex (s : ByteArray) : Int × Bool := phL 0 0 (bytesOf s)
theorem pow16 {i : Nat} (h : i ≤ 4) : (16 : Int) ^ i ≤ 65536 := by
  rcases i with _ | _ | _ | _ | _ | i
  all_goals first | omega | decide
theorem impl_ParseHex_ev (s : ByteArray) (hs : s.size ≤ 140737488351232) : Ev (fun k => impl_ParseHex.f k s) (parseHex s) := by
  refine str_loop_st s (fun i n k => impl_ParseHex.l0 k s n (i : Int)) phL (fun i n r => i ≤ 4 ∧ 0 ≤ n ∧ n < 16 ^ i ∧ i + r.length = s.size) ?_ ?_ hs 0 0 ⟨by omega, by omega, by simp, by simp [bytesOf_length]⟩
  · intro i n ⟨_, _, _, hl⟩ hi
    apply ev_succ; simp only [impl_ParseHex.l0, if_neg (show ¬ (i : Int) < s.size by omega)]
    have : (s.toList != ([] : List UInt8)) = decide (i ≠ 0) := by
      rw [Lib.toList_data]
      have h2 := data_length s
      simp at hl
      rw [Bool.eq_iff_iff]
      simp only [bne_iff_ne, ne_eq, decide_eq_true_eq]
      rw [← List.length_eq_zero_iff, h2, hl]
    rw [this]; exact Ev.now _
  · intro i n c r ⟨h4, h0, hn, hl⟩ h hb hi hw hw1 ih
    have hc := bytesOf_range s c (List.mem_of_mem_drop (by rw [h]; simp : c ∈ (bytesOf s).drop i))
    have hd := hexC_range c
    have h16 := pow16 h4
    apply ev_succ
    simp only [impl_ParseHex.l0, if_pos (show (i : Int) < s.size by omega), if_pos (show (0 : Int) ≤ i by omega), hb, hw1]
    refine Ev.bind (digitOf_ev c hc.1 hc.2) (ev_ite (fun q => ?_) (fun q => ev_ite (fun q1 => ?_) (fun q1 => ?_)))
    · simpa [phL, q] using Ev.now (0, false)
    · have : i ≥ 4 := by omega
      simpa [phL, q, this] using Ev.now (0, false)
    · have h5 : ¬ i ≥ 4 := by omega
      rw [wrap_id (x := 16 * n) (by omega) (by omega), wrap_id (by omega) (by omega)]
      have := ih (n * 16 + hexC c) ⟨by omega, by omega, by rw [Int.pow_succ]; omega, by simp at hl ⊢; omega⟩
      simp only [phL, if_neg q, if_neg h5]
      rw [show 16 * n + hexC c = n * 16 + hexC c by omega]; exact this
theorem spec_ParseHex_ev (s : ByteArray) (hs : s.size ≤ 140737488351232) : Ev (fun k => spec_ParseHex.f k s) (parseHex s) := by
  refine str_loop_st s (fun i n k => spec_ParseHex.l0 k s n (i : Int)) phL (fun i n r => i ≤ 4 ∧ 0 ≤ n ∧ n < 16 ^ i ∧ i + r.length = s.size) ?_ ?_ hs 0 0 ⟨by omega, by omega, by simp, by simp [bytesOf_length]⟩
  · intro i n ⟨h4, h0, hn, hl⟩ hi
    simp at hl
    apply ev_succ; simp only [spec_ParseHex.l0, if_neg (show ¬ (i : Int) < s.size by omega)]
    apply ev_succ; simp only [spec_ParseHex.j1, if_neg (show ¬ false = true by simp), l1In_eq, Option.bind_some, phL]
    by_cases q : i = 0
    · subst q
      have h1 : s.size = 0 := by omega
      have h2 : n = 0 := by simp at hn; omega
      subst h2
      simpa [h1] using Ev.now ((0 : Int), false)
    · simp only [decide_eq_true (show (1 : Int) ≤ s.size by omega), decide_eq_true (show (s.size : Int) ≤ 4 by omega), Bool.and_self, if_true]
      simpa [q] using Ev.now (n, true)
  · intro i n c r ⟨h4, h0, hn, hl⟩ h hb hi hw hw1 ih
    have hc := bytesOf_range s c (List.mem_of_mem_drop (by rw [h]; simp : c ∈ (bytesOf s).drop i))
    have hd := hexC_range c
    have h16 := pow16 h4
    apply ev_succ
    simp only [spec_ParseHex.l0, if_pos (show (i : Int) < s.size by omega)]
    apply ev_succ
    simp only [spec_ParseHex.j1, decide_eq_true (show (i : Int) < 5 by omega), if_true, if_pos (show (i : Int) < s.size by omega), if_pos (show (0 : Int) ≤ i by omega), hb, hw1, l1HexOf_eq c hc.1 hc.2, Option.bind_some]
    refine ev_ite (fun q => ?_) (fun q => ?_)
    · simpa [phL, q] using Ev.now ((0 : Int), false)
    · rw [wrap_id (x := n * 16) (by omega) (by omega), wrap_id (by omega) (by omega)]
      by_cases q1 : i ≥ 4
      · simp only [phL, if_neg q, if_pos q1]
        have e4 : i = 4 := by omega
        subst e4
        apply ev_succ
        simp at hl
        have h5 : (s.size : Int) ≥ 5 := by omega
        by_cases q2 : ((4 + 1 : Nat) : Int) < s.size
        · simp only [spec_ParseHex.l0, if_pos q2]
          apply ev_succ
          simp only [spec_ParseHex.j1, decide_eq_false (show ¬ ((4 + 1 : Nat) : Int) < 5 by decide), if_neg (show ¬ false = true by simp), l1In_eq, Option.bind_some]
          simpa [decide_eq_false (show ¬ (s.size : Int) ≤ 4 by omega)] using Ev.now ((0 : Int), false)
        · simp only [spec_ParseHex.l0, if_neg q2]
          apply ev_succ
          simp only [spec_ParseHex.j1, if_neg (show ¬ false = true by simp), l1In_eq, Option.bind_some]
          simpa [decide_eq_false (show ¬ (s.size : Int) ≤ 4 by omega)] using Ev.now ((0 : Int), false)
      · simp only [phL, if_neg q, if_neg q1]
        exact ih (n * 16 + hexC c) ⟨by omega, by omega, by rw [Int.pow_succ]; omega, by simp at hl ⊢; omega⟩

theorem eqByteS_ev (a b : List Int) (ha : a.length ≤ 9223372036854775806) : Ev (fun k => laws_eqByteS.f k a b) (eqb a b) := by
  unfold laws_eqByteS.f
  refine ev_ite (fun q => ?_) (fun q => ?_)
  · have q' : a.length = b.length := by omega
    refine eq_loop a b (· = ·) q' ha (fun i k => laws_eqByteS.l0 k a b (i : Int)) _ ((eqb_iff a b).trans (list_eq_iff a b q')) ?_ ?_
    · intro i hi
      apply ev_succ; simp only [laws_eqByteS.l0, if_neg (show ¬ (i : Int) < a.length by omega)]; exact Ev.now _
    · intro i x y v hi hx hy hw1 ih
      have hxx : rd a (i : Int) = x := hx _
      have hyy : rd b (i : Int) = y := hy _
      refine ⟨fun hR => ?_, fun hR => ?_⟩
      · apply ev_succ
        simp only [laws_eqByteS.l0, if_pos (show (i : Int) < a.length by omega), if_pos (show (0 : Int) ≤ i by omega), if_pos (show (i : Int) < b.length by omega), hxx, hyy, hw1, if_pos hR]; exact ih
      · apply ev_succ
        simp only [laws_eqByteS.l0, if_pos (show (i : Int) < a.length by omega), if_pos (show (0 : Int) ≤ i by omega), if_pos (show (i : Int) < b.length by omega), hxx, hyy, hw1, if_neg hR]; exact Ev.now _
  · rw [eqb_ne (fun h => q (by rw [h]))]; exact Ev.now _

/-- a slice of bytes, as a law copies and compares it -/
theorem toByteS_ev (l : List Int) (hl : l.length ≤ 281474976710656) : Ev (fun k => laws_toByteS.f k l) l := by
  unfold laws_toByteS.f
  simp only [if_pos (show (0 : Int) ≤ (l.length : Int) by omega), Int.toNat_natCast, if_pos hl]
  have := fill_loop l (fun x => x) (0 : Int) (by omega) (fun i x k => laws_toByteS.l0 k l x (i : Int)) ?_ ?_
  · simpa using this
  · intro i x hi
    apply ev_succ; simp only [laws_toByteS.l0, if_neg (show ¬ (i : Int) < l.length by omega)]; exact Ev.now _
  · intro i x c r hi hx hb hw1 ih
    have hbb : rd l (i : Int) = c := hb _
    apply ev_succ
    simp only [laws_toByteS.l0, if_pos (show (i : Int) < l.length by omega), if_pos (show (0 : Int) ≤ i by omega), if_pos (show (i : Int) < x.length by omega), hbb, hw1]
    exact ih
theorem wf_bytes {l : List Int} (h : ∀ x ∈ l, (Lit.int .u8 x).wf = true) : ∀ x ∈ l, 0 ≤ x ∧ x < 256 := by
  intro x hx
  have := h x hx
  simp [Lit.wf, IntKind.min, IntKind.max, IntKind.signed, IntKind.bits] at this
  omega

theorem in_eq (c a b : Int) : impl_in.f c a b = some (decide (a ≤ c) && decide (c ≤ b)) := by
  unfold impl_in.f; split <;> simp [*] <;> omega

theorem u8_eq {a : Int} (h0 : 0 ≤ a) (h1 : a < 256) (n : Nat) (hn : n < 256) : (UInt8.ofNat n == UInt8.ofNat a.toNat) = decide (a = n) := by
  rw [Bool.eq_iff_iff, beq_iff_eq, decide_eq_true_iff]
  constructor
  · intro h
    have := congrArg UInt8.toNat h
    simp only [UInt8.toNat_ofNat'] at this
    omega
  · rintro rfl; simp

theorem so_nil (r : List Int) : ((strOfNums r).toList = ([] : List UInt8)) ↔ r = [] := by
  rw [Lib.toList_data, strOfNums_data]; simp
theorem so_bytes (r : List Int) (hr : ∀ x ∈ r, 0 ≤ x ∧ x < 256) : bytesOf (strOfNums r) = r := bytesOf_strOfNums r hr
theorem so_bt {r : List Int} {a : Int} {t : List Int} (hr : ∀ x ∈ r, 0 ≤ x ∧ x < 256) (h : r = a :: t) : bt (strOfNums r) 0 = a :=
  (bt_drop (s := strOfNums r) (i := 0) (c := a) (r := t) (by rw [so_bytes r hr, h]; rfl)).1
theorem so_cut (r : List Int) (hr : ∀ x ∈ r, 0 ≤ x ∧ x < 256) (i j : Nat) : (strOfNums r).extract i j = strOfNums ((r.take j).drop i) := by
  apply bytesOf_inj
  rw [bytesOf_extract, so_bytes r hr, so_bytes _ (fun x hx => hr x (List.mem_of_mem_take (List.mem_of_mem_drop hx)))]
theorem so_from (r : List Int) (hr : ∀ x ∈ r, 0 ≤ x ∧ x < 256) (i : Nat) : (strOfNums r).extract i (strOfNums r).size = strOfNums (r.drop i) := by
  rw [so_cut r hr, strOfNums_size, List.take_length]
/-- a line's end -/
def endR : List Int → Int × List Int
  | [] => (1, [])
  | a :: t => if a = 13 then (match t with | [] => (1, []) | b :: u => if b = 10 then (0, u) else (400, b :: u)) else (400, a :: t)
theorem endR_zero {r : List Int} (h : (endR r).1 = 0) : r = 13 :: 10 :: (endR r).2 := by
  match r, h with
  | [], h => simp [endR] at h
  | [a], h => by_cases q : a = 13 <;> simp [endR, q] at h
  | a :: b :: u, h =>
    by_cases q : a = 13
    · by_cases q1 : b = 10
      · simp [endR, q, q1]
      · simp [endR, q, q1] at h
    · simp [endR, q] at h
theorem end_stop (i : Int) (s : ByteArray) (c : Int) (hc : c ≠ 0) : Ev (fun k => impl_chunks_end.l0 k i s c) (s, c) := by
  have hj : Ev (fun k => impl_chunks_end.j1 k i false s c) (s, c) := by
    apply ev_succ; simp only [impl_chunks_end.j1, Bool.false_eq_true, if_false]; exact Ev.now _
  apply ev_succ
  simp only [impl_chunks_end.l0, beq_eq_false_iff_ne.2 hc]
  exact ev_ite (fun _ => hj) (fun _ => hj)
theorem end_two (s : ByteArray) (c : Int) : Ev (fun k => impl_chunks_end.l0 k 2 s c) (s, c) := by
  apply ev_succ
  simp only [impl_chunks_end.l0, if_neg (show ¬ (2 : Int) < 2 by omega)]
  apply ev_succ; simp only [impl_chunks_end.j1, Bool.false_eq_true, if_false]; exact Ev.now _
theorem end_step (i b : Int) (hi0 : 0 ≤ i) (hi : i < 2) (hb : bt (⟨#[13, 10]⟩ : ByteArray) i = b) (r : List Int) (hr : ∀ x ∈ r, 0 ≤ x ∧ x < 256) (X : ByteArray × Int)
    (h0 : r = [] → X = (strOfNums r, 1)) (h1 : ∀ a t, r = a :: t → a ≠ b → X = (strOfNums r, 400))
    (h2 : ∀ t, r = b :: t → Ev (fun k => impl_chunks_end.l0 k (i + 1) (strOfNums t) 0) X) : Ev (fun k => impl_chunks_end.l0 k i (strOfNums r) 0) X := by
  have hw : wrap64 (i + 1) = i + 1 := wrap_id (by omega) (by omega)
  apply ev_succ
  simp only [impl_chunks_end.l0, if_pos hi, beq_self_eq_true]
  apply ev_succ
  simp only [impl_chunks_end.j1, if_true, hw, hb, if_pos hi0, if_pos hi]
  refine ev_ite (fun q => ?_) (fun q => ?_)
  · rw [so_nil] at q
    rw [h0 q]; exact end_stop _ _ _ (by omega)
  · rw [so_nil] at q
    match hm : r, q with
    | a :: t, _ =>
      have hs : (strOfNums (a :: t)).size = t.length + 1 := by rw [strOfNums_size]; rfl
      simp only [hs, if_pos (show (0 : Int) < ((t.length + 1 : Nat) : Int) by omega), so_bt hr rfl, if_pos (show (1 : Int) ≤ ((t.length + 1 : Nat) : Int) by omega)]
      refine ev_ite (fun q1 => ?_) (fun q1 => ?_)
      · subst q1
        have e := so_from (a :: t) hr 1
        rw [hs] at e
        rw [e]
        exact h2 t rfl
      · rw [h1 a t rfl q1]; exact end_stop _ _ _ (by omega)
theorem end_ev (r : List Int) (hr : ∀ x ∈ r, 0 ≤ x ∧ x < 256) : Ev (fun k => impl_chunks_end.f k (strOfNums r) 0) (strOfNums (endR r).2, (endR r).1) := by
  unfold impl_chunks_end.f
  refine end_step 0 13 (by omega) (by omega) rfl r hr _ (fun h => by rw [h]; rfl) (fun a t h q => by rw [h]; simp [endR, q]) (fun t h => ?_)
  have ht : ∀ x ∈ t, 0 ≤ x ∧ x < 256 := fun x hx => hr x (by rw [h]; simp [hx])
  refine end_step 1 10 (by omega) (by omega) rfl t ht _ (fun h1 => by rw [h, h1]; rfl) (fun a u h1 q => by rw [h, h1]; simp [endR, q]) (fun u h1 => ?_)
  rw [h, h1]
  exact end_two _ _
theorem rd_drop {l : List Int} {p : Nat} {a : Int} {t : List Int} (h : l.drop p = a :: t) : rd l (p : Int) = a ∧ p < l.length ∧ l.drop (p + 1) = t := by
  obtain ⟨h1, h2, h3, _⟩ := l_drop h
  exact ⟨h1 _, h2, h3⟩
theorem drop_nil {l : List Int} {p : Nat} (h : l.drop p = []) : l.length ≤ p := List.drop_eq_nil_iff.1 h
theorem l4End_eq (l : List Int) (p : Nat) (hl : l.length ≤ 9223372036854775000) : spec_l4End.f l (p : Int) = some (endR (l.drop p)).1 := by
  unfold spec_l4End.f
  match hd : l.drop p with
  | [] =>
    have := drop_nil hd
    rw [if_pos (by omega)]; rfl
  | a :: t =>
    obtain ⟨h1, h2, h3⟩ := rd_drop hd
    have hw : wrap64 ((p : Int) + 1) = ((p + 1 : Nat) : Int) := by rw [wrap_id (by omega) (by omega)]; rfl
    rw [if_neg (by omega), if_pos (by omega), if_pos (by omega), h1, hw]
    by_cases q : a = 13
    · rw [if_pos q]
      match hd2 : t with
      | [] =>
        have := drop_nil h3
        rw [if_pos (by omega)]; simp [endR, q]
      | b :: u =>
        obtain ⟨g1, g2, g3⟩ := rd_drop h3
        rw [if_neg (by omega), if_pos (by omega), if_pos (by omega), g1]
        by_cases q1 : b = 10
        · rw [if_pos q1]; simp [endR, q, q1]
        · rw [if_neg q1]; simp [endR, q, q1]
    · rw [if_neg q]; simp [endR, q]
/-- a piece's length, as text, and what stands behind it -/
def tw (r : List Int) : List Int := r.takeWhile fun c => decide (c ≠ 13)
def dw (r : List Int) : List Int := r.dropWhile fun c => decide (c ≠ 13)
theorem tw_dw (r : List Int) : tw r ++ dw r = r := List.takeWhile_append_dropWhile
theorem dw_head {r : List Int} {a : Int} {u : List Int} (h : dw r = a :: u) : a = 13 := by
  have := List.head_dropWhile_not (p := fun c : Int => decide (c ≠ 13)) (l := r) (by unfold dw at h; rw [h]; simp)
  unfold dw at h
  simp only [h, List.head_cons] at this
  simpa using this
theorem index13 : ∀ (r : List Int), (∀ x ∈ r, 0 ≤ x ∧ x < 256) → Lib.index (r.map fun n => UInt8.ofNat n.toNat) [13] = if dw r = [] then -1 else ((tw r).length : Int)
  | [], _ => rfl
  | c :: r, hr => by
    have hc := hr c (by simp)
    have ih := index13 r (fun x hx => hr x (by simp [hx]))
    have e := u8_eq hc.1 hc.2 13 (by omega)
    rw [List.map_cons, Lib.index]
    have c13 : (13 : UInt8) = UInt8.ofNat 13 := rfl
    simp only [List.isPrefixOf, Bool.and_true]
    rw [c13, e]
    by_cases q : c = ((13 : Nat) : Int)
    · have q' : c = 13 := q
      rw [decide_eq_true q, if_pos rfl, q']
      simp [dw, tw]
    · have q' : c ≠ 13 := q
      rw [decide_eq_false q, if_neg (by simp), ← c13, ih]
      have e1 : dw (c :: r) = dw r := by simp [dw, q']
      have e2 : tw (c :: r) = c :: tw r := by simp [tw, q']
      rw [e1, e2]
      by_cases q1 : dw r = []
      · simp [q1]
      · rw [if_neg q1, if_neg q1]
        rw [if_neg (by simp only [beq_iff_eq]; omega)]
        simp
theorem cut13 (r : List Int) (hr : ∀ x ∈ r, 0 ≤ x ∧ x < 256) (hl : r.length < 4294967281) : ∃ x, strings_Cut.f (strOfNums r) (⟨#[13]⟩ : ByteArray) = some (strOfNums (tw r), x, decide (dw r ≠ [])) := by
  unfold strings_Cut.f
  rw [if_pos (by rw [strOfNums_size]; exact hl)]
  refine ⟨⟨(Lib.cut (strOfNums r).data.toList [13]).2.1.toArray⟩, ?_⟩
  congr 1
  have hi := index13 r hr
  have hs : (strOfNums r).data.toList = r.map fun n => UInt8.ofNat n.toNat := by rw [strOfNums_data]
  have h13 : ((⟨#[13]⟩ : ByteArray).data.toList) = [13] := rfl
  refine Prod.ext ?_ (Prod.ext rfl ?_)
  · show (⟨(Lib.cut _ _).1.toArray⟩ : ByteArray) = _
    apply ByteArray.ext
    rw [hs, h13]
    unfold Lib.cut
    rw [hi]
    by_cases q : dw r = []
    · have ht : tw r = r := by have := tw_dw r; rw [q, List.append_nil] at this; exact this
      rw [if_pos q, if_neg (by omega), ht]
      apply Array.toList_inj.mp
      rw [strOfNums_data]
    · rw [if_neg q, if_pos (by omega)]
      apply Array.toList_inj.mp
      rw [strOfNums_data]
      simp only [Int.toNat_natCast]
      rw [← List.map_take]
      congr 1
      have := @List.take_left _ (tw r) (dw r)
      rw [tw_dw] at this
      exact this
  · show (Lib.cut _ _).2.2 = _
    rw [hs, h13]
    unfold Lib.cut
    rw [hi]
    by_cases q : dw r = []
    · rw [if_pos q, if_neg (by omega)]; simp [q]
    · rw [if_neg q, if_pos (by omega)]; simp [q]
def sizeR (r : List Int) : Int × List Int × Int :=
  if dw r = [] then ((phL 0 0 (tw r)).1, r, if tw r = [] ∨ (phL 0 0 (tw r)).2 = true then 1 else 400)
  else if (phL 0 0 (tw r)).2 = true then ((phL 0 0 (tw r)).1, (endR (dw r)).2, (endR (dw r)).1) else ((phL 0 0 (tw r)).1, r, 400)
theorem tw_range {r : List Int} (hr : ∀ x ∈ r, 0 ≤ x ∧ x < 256) : ∀ x ∈ tw r, 0 ≤ x ∧ x < 256 := fun x hx => hr x (by rw [← tw_dw r]; exact List.mem_append_left _ hx)
theorem dw_range {r : List Int} (hr : ∀ x ∈ r, 0 ≤ x ∧ x < 256) : ∀ x ∈ dw r, 0 ≤ x ∧ x < 256 := fun x hx => hr x (by rw [← tw_dw r]; exact List.mem_append_right _ hx)
theorem tw_len (r : List Int) : (tw r).length + (dw r).length = r.length := by rw [← List.length_append, tw_dw]
theorem dw_eq (r : List Int) : r.drop (tw r).length = dw r := by
  have := @List.drop_left _ (tw r) (dw r)
  rw [tw_dw] at this
  exact this
theorem size_ev (r : List Int) (hr : ∀ x ∈ r, 0 ≤ x ∧ x < 256) (hl : r.length ≤ 4194304) : Ev (fun k => impl_chunks_size.f k (strOfNums r) 0) ((sizeR r).1, strOfNums (sizeR r).2.1, (sizeR r).2.2) := by
  obtain ⟨x, hx⟩ := cut13 r hr (by omega)
  have htl := tw_len r
  unfold impl_chunks_size.f
  simp only [hx, Option.bind_some]
  have hp := impl_ParseHex_ev (strOfNums (tw r)) (by rw [strOfNums_size]; omega)
  unfold parseHex at hp
  rw [so_bytes _ (tw_range hr)] at hp
  refine Ev.bind hp ?_
  have hts : (strOfNums (tw r)).size = (tw r).length := strOfNums_size _
  have hrs : (strOfNums r).size = r.length := strOfNums_size _
  by_cases q : dw r = []
  · simp only [q, ne_eq, not_true_eq_false, decide_false, Bool.false_eq_true, if_false]
    apply ev_succ
    simp only [impl_chunks_size.j0, Bool.false_eq_true, if_false]
    unfold sizeR
    rw [if_pos q]
    refine ev_iteB (fun q1 => ?_) (fun q1 => ?_)
    · have q1' : tw r = [] := by
        rw [← so_nil]; simpa using q1
      rw [if_pos (.inl q1')]; exact Ev.now _
    · have q1' : tw r ≠ [] := by
        rw [ne_eq, ← so_nil]; simpa using q1
      refine ev_iteB (fun q2 => ?_) (fun q2 => ?_)
      · rw [if_pos (.inr q2)]; exact Ev.now _
      · rw [if_neg (by simp [q1', q2])]; exact Ev.now _
  · simp only [ne_eq, q, not_false_eq_true, decide_true, if_true]
    apply ev_succ
    simp only [impl_chunks_size.j0, Bool.false_eq_true, if_false, if_true]
    unfold sizeR
    rw [if_neg q]
    refine ev_iteB (fun q2 => ?_) (fun q2 => ?_)
    · simp only [hts, hrs, if_pos (show (0 : Int) ≤ ((tw r).length : Int) by omega), if_pos (show ((tw r).length : Int) ≤ (r.length : Int) by omega)]
      have e := so_from r hr (tw r).length
      rw [hrs, dw_eq] at e
      rw [e, if_pos q2]
      exact Ev.bind (end_ev (dw r) (dw_range hr)) (Ev.now _)
    · rw [if_neg (by simp [q2])]; exact Ev.now _
theorem phL_long : ∀ (t : List Int) (i : Nat) (n : Int), i ≤ 4 → 5 ≤ i + t.length → (phL i n t).2 = false
  | [], i, n, h, h5 => by simp at h5; omega
  | c :: r, i, n, h, h5 => by
    unfold phL
    split
    · rfl
    · split
      · rfl
      · exact phL_long r (i + 1) _ (by omega) (by simp at h5; omega)
theorem phL_range : ∀ (t : List Int) (i : Nat) (n : Int), i ≤ 4 → 0 ≤ n → n < 16 ^ i → 0 ≤ (phL i n t).1 ∧ (phL i n t).1 < 65536
  | [], i, n, h, h0, h1 => by have := pow16 h; simp only [phL]; omega
  | c :: r, i, n, h, h0, h1 => by
    have hd := hexC_range c
    have := pow16 h
    unfold phL
    split
    · simp
    · split
      · simp
      · rename_i q q4
        exact phL_range r (i + 1) _ (by omega) (by omega) (by rw [Int.pow_succ]; omega)
theorem spec_size_j3 (l : List Int) (hl : l.length ≤ 4194304) (hr : ∀ x ∈ l, 0 ≤ x ∧ x < 256) (p m : Nat) (hm : m ≤ 5) (X : Int × Int × Int) (hpm : p + m ≤ l.length)
    (h0 : l.drop (p + m + 1) = [] → X = (0, 0, 1)) (h1 : ∀ b u, l.drop (p + m + 1) = b :: u → b ≠ 10 → X = (0, 0, 400)) (h2 : ∀ u, l.drop (p + m + 1) = 10 :: u → X = ((phL 0 0 ((l.take (p + m)).drop p)).1, ((p + m + 2 : Nat) : Int), 0)) :
    Ev (fun k => spec_l4Size.j3 k l (p : Int) ((p + m : Nat) : Int)) X := by
  have hw : wrap64 (((p + m : Nat) : Int) + 1) = ((p + m + 1 : Nat) : Int) := by rw [wrap_id (by omega) (by omega)]; rfl
  have hw2 : wrap64 (((p + m : Nat) : Int) + 2) = ((p + m + 2 : Nat) : Int) := by rw [wrap_id (by omega) (by omega)]; rfl
  apply ev_succ
  simp only [spec_l4Size.j3, hw, hw2]
  match hd : l.drop (p + m + 1) with
  | [] =>
    have := drop_nil hd
    rw [h0 hd]
    refine ev_ite (fun _ => Ev.now _) (fun q => absurd q (by omega))
  | b :: u =>
    obtain ⟨g1, g2, g3⟩ := rd_drop hd
    simp only [if_neg (show ¬ ((p + m + 1 : Nat) : Int) ≥ (l.length : Int) by omega), if_pos (show (0 : Int) ≤ ((p + m + 1 : Nat) : Int) by omega), if_pos (show ((p + m + 1 : Nat) : Int) < (l.length : Int) by omega), g1]
    refine ev_ite (fun q => ?_) (fun q => ?_)
    · subst q
      rw [h2 u hd]
      simp only [if_pos (show (0 : Int) ≤ (p : Int) by omega), if_pos (show (p : Int) ≤ ((p + m : Nat) : Int) by omega), if_pos (show ((p + m : Nat) : Int) ≤ (l.length : Int) by omega), Int.toNat_natCast]
      have hp := spec_ParseHex_ev (strOfNums ((l.take (p + m)).drop p)) (by rw [strOfNums_size]; simp; omega)
      unfold parseHex at hp
      rw [so_bytes _ (fun x hx => hr x (List.mem_of_mem_take (List.mem_of_mem_drop hx)))] at hp
      exact Ev.bind hp (Ev.now _)
    · rw [h1 b u hd q]; exact Ev.now _
def sizeX (p : Nat) (r : List Int) : Int × Int × Int := if (sizeR r).2.2 = 0 then ((sizeR r).1, ((p + (tw r).length + 2 : Nat) : Int), 0) else (0, 0, (sizeR r).2.2)
theorem take_tw (r : List Int) : r.take (tw r).length = tw r := by
  have := @List.take_left _ (tw r) (dw r)
  rw [tw_dw] at this
  exact this
theorem spec_size_j1 (l : List Int) (hl : l.length ≤ 4194304) (hr : ∀ x ∈ l, 0 ≤ x ∧ x < 256) (p m : Nat) (hm : m = min 5 (tw (l.drop p)).length) (hp : p ≤ l.length) :
    Ev (fun k => spec_l4Size.j1 k l (p : Int) ((p + m : Nat) : Int)) (sizeX p (l.drop p)) := by
  have hw5 : wrap64 ((p : Int) + 5) = ((p + 5 : Nat) : Int) := by rw [wrap_id (by omega) (by omega)]; rfl
  have htl := tw_len (l.drop p)
  rw [List.length_drop] at htl
  have hrr : ∀ x ∈ l.drop p, 0 ≤ x ∧ x < 256 := fun x hx => hr x (List.mem_of_mem_drop hx)
  apply ev_succ
  simp only [spec_l4Size.j1, hw5]
  refine ev_ite (fun q => ?_) (fun q => ?_)
  · have hlong := phL_long (tw (l.drop p)) 0 0 (by omega) (by omega)
    have hne : tw (l.drop p) ≠ [] := by intro e; rw [e] at hm; simp at hm; omega
    have : sizeX p (l.drop p) = (0, 0, 400) := by
      unfold sizeX sizeR
      by_cases qd : dw (l.drop p) = []
      · rw [if_pos qd]; simp [hlong, hne]
      · rw [if_neg qd]; simp [hlong]
    rw [this]; exact Ev.now _
  · have hm' : m = (tw (l.drop p)).length := by omega
    have e1 : (l.take (p + m)).drop p = tw (l.drop p) := by
      rw [List.drop_take, show p + m - p = m by omega, hm', take_tw]
    have e2 : l.drop (p + m) = dw (l.drop p) := by
      rw [← List.drop_drop, hm', dw_eq]
    have hph := spec_ParseHex_ev (strOfNums ((l.take (p + m)).drop p)) (by rw [strOfNums_size, e1]; omega)
    unfold parseHex at hph
    rw [so_bytes _ (fun x hx => hr x (List.mem_of_mem_take (List.mem_of_mem_drop hx))), e1] at hph
    have e3 : l.drop (p + m + 1) = (dw (l.drop p)).drop 1 := by rw [← e2, List.drop_drop]
    have j3 := spec_size_j3 l hl hr p m (by omega)
    rw [e1, e3] at j3
    have j2 : ∀ X, ((phL 0 0 (tw (l.drop p))).2 = true → Ev (fun k => spec_l4Size.j3 k l (p : Int) ((p + m : Nat) : Int)) X) → ((phL 0 0 (tw (l.drop p))).2 = false → X = (0, 0, 400)) → Ev (fun k => spec_l4Size.j2 k l (p : Int) ((p + m : Nat) : Int) true) X := by
      intro X hy hn
      apply ev_succ
      simp only [spec_l4Size.j2, if_true, if_pos (show (0 : Int) ≤ (p : Int) by omega), if_pos (show (p : Int) ≤ ((p + m : Nat) : Int) by omega), if_pos (show ((p + m : Nat) : Int) ≤ (l.length : Int) by omega), Int.toNat_natCast, e1]
      exact Ev.bind hph (ev_iteB hy (fun h => by rw [hn h]; exact Ev.now _))
    by_cases qd : dw (l.drop p) = []
    · have hend : p + m = l.length := by rw [qd] at htl; simp at htl; omega
      simp only [if_neg (show ¬ ((p + m : Nat) : Int) < (l.length : Int) by omega)]
      rw [qd] at j3
      have hX : ∀ X, X = (0, 0, 1) → Ev (fun k => spec_l4Size.j3 k l (p : Int) ((p + m : Nat) : Int)) X := fun X hX => j3 X (by omega) (fun _ => hX) (fun b u h => by simp at h) (fun u h => by simp at h)
      by_cases q0 : tw (l.drop p) = []
      · have hm0 : m = 0 := by rw [hm', q0]; rfl
        simp only [decide_eq_false (show ¬ ((p + m : Nat) : Int) > (p : Int) by omega)]
        apply ev_succ
        simp only [spec_l4Size.j2, Bool.false_eq_true, if_false]
        exact hX _ (by unfold sizeX sizeR; rw [if_pos qd]; simp [q0])
      · have hm0 : 0 < m := by rw [hm']; exact List.length_pos_iff.2 q0
        simp only [decide_eq_true (show ((p + m : Nat) : Int) > (p : Int) by omega)]
        refine j2 _ (fun h => hX _ ?_) (fun h => ?_)
        · unfold sizeX sizeR; rw [if_pos qd]; simp [h]
        · unfold sizeX sizeR; rw [if_pos qd]; simp [h, q0]
    · match hdw : dw (l.drop p), qd with
      | a :: u, _ =>
        have ha := dw_head hdw
        subst ha
        rw [hdw] at htl j3
        simp at htl
        simp only [if_pos (show ((p + m : Nat) : Int) < (l.length : Int) by omega)]
        have hne : dw (l.drop p) ≠ [] := by rw [hdw]; simp
        refine j2 _ (fun h => ?_) (fun h => ?_)
        · refine j3 _ (by omega) (fun hu => ?_) (fun b v hu q1 => ?_) (fun v hu => ?_)
          · simp at hu
            unfold sizeX sizeR; rw [if_neg hne, if_pos h, hdw, hu]; simp [endR]
          · simp at hu
            unfold sizeX sizeR; rw [if_neg hne, if_pos h, hdw, hu]; simp [endR, q1]
          · simp at hu
            unfold sizeX sizeR; rw [if_neg hne, if_pos h, hdw, hu, hm']; simp [endR]
        · unfold sizeX sizeR; rw [if_neg hne]; simp [h]
theorem tw_ne {r : List Int} {a : Int} (h : a ∈ tw r) : a ≠ 13 := by
  have h1 := List.all_eq_true.1 (List.all_takeWhile (p := fun c : Int => decide (c ≠ 13)) (l := r)) a h
  simpa using h1
theorem spec_size_l0 (l : List Int) (p j : Nat) (X : Int × Int × Int) (hl : l.length ≤ 4194304) (hp : p ≤ l.length) (hj5 : j ≤ 5)
    (h0 : l.drop (p + j) = [] → Ev (fun k => spec_l4Size.j1 k l (p : Int) ((p + j : Nat) : Int)) X) (h1 : ∀ u, l.drop (p + j) = 13 :: u → Ev (fun k => spec_l4Size.j1 k l (p : Int) ((p + j : Nat) : Int)) X) (h5 : j = 5 → Ev (fun k => spec_l4Size.j1 k l (p : Int) ((p + j : Nat) : Int)) X)
    (h2 : ∀ a u, l.drop (p + j) = a :: u → a ≠ 13 → j < 5 → Ev (fun k => spec_l4Size.l0 k l (p : Int) ((p + (j + 1) : Nat) : Int)) X) :
    Ev (fun k => spec_l4Size.l0 k l (p : Int) ((p + j : Nat) : Int)) X := by
  have hw5 : wrap64 ((p : Int) + 5) = ((p + 5 : Nat) : Int) := by rw [wrap_id (by omega) (by omega)]; rfl
  apply ev_succ
  simp only [spec_l4Size.l0, hw5]
  refine ev_ite (fun q1 => ev_ite (fun q2 => ?_) (fun q2 => h5 (by omega))) (fun q1 => h0 (List.drop_eq_nil_iff.2 (by omega)))
  have q3 : j < 5 := by omega
  have q4 : (0 : Int) ≤ ((p + j : Nat) : Int) := by omega
  have hw1 : wrap64 (((p + j : Nat) : Int) + 1) = ((p + (j + 1) : Nat) : Int) := by rw [wrap_id (by omega) (by omega)]; omega
  have q5 : ¬ l.length ≤ p + j := by omega
  simp only [if_pos q4, hw1]
  match hd : l.drop (p + j) with
  | [] => exact absurd (drop_nil hd) q5
  | a :: u =>
    have g1 := (rd_drop hd).1
    simp only [g1]
    refine ev_ite (fun q => ?_) (fun q => h2 a u hd q q3)
    exact h1 u (by rw [hd, q])
theorem spec_size_ev (l : List Int) (hl : l.length ≤ 4194304) (hr : ∀ x ∈ l, 0 ≤ x ∧ x < 256) (p : Nat) (hp : p ≤ l.length) :
    Ev (fun k => spec_l4Size.f k l (p : Int)) (sizeX p (l.drop p)) := by
  obtain ⟨m, hm⟩ : ∃ m, m = min 5 (tw (l.drop p)).length := ⟨_, rfl⟩
  have hj1 := spec_size_j1 l hl hr p m hm hp
  have h5 : m ≤ 5 := by omega
  have key : ∀ n j, j + n = m → Ev (fun k => spec_l4Size.l0 k l (p : Int) ((p + j : Nat) : Int)) (sizeX p (l.drop p)) := by
    intro n
    induction n with
    | zero =>
      intro j hj
      obtain rfl : j = m := by omega
      refine spec_size_l0 l p j _ hl hp h5 (fun _ => hj1) (fun _ _ => hj1) (fun _ => hj1) (fun a u h q q5 => ?_)
      have e2 : l.drop (p + j) = dw (l.drop p) := by
        rw [← List.drop_drop, show j = (tw (l.drop p)).length by omega, dw_eq]
      rw [e2] at h
      exact absurd (dw_head h) q
    | succ n ih =>
      intro j hj
      have hjt : j < (tw (l.drop p)).length := by omega
      have e2 : l.drop (p + j) = (tw (l.drop p)).drop j ++ dw (l.drop p) := by
        have e := @List.drop_append_of_le_length _ (tw (l.drop p)) (dw (l.drop p)) j (by omega)
        rw [tw_dw, List.drop_drop] at e
        exact e
      have hj6 : j + 1 + n = m := by omega
      have hj5 : j ≤ 5 := by omega
      have hj7 : j ≠ 5 := by omega
      match hd : (tw (l.drop p)).drop j with
      | [] => exact absurd (drop_nil hd) (by omega)
      | a :: u =>
        have ha := tw_ne (List.mem_of_mem_drop (by rw [hd]; simp : a ∈ (tw (l.drop p)).drop j))
        rw [hd] at e2
        refine spec_size_l0 l p j _ hl hp hj5 (fun h => ?_) (fun v h => ?_) (fun h => absurd h hj7) (fun _ _ _ _ _ => ih (j + 1) hj6)
        · rw [e2] at h; simp at h
        · rw [e2] at h; simp only [List.cons_append, List.cons.injEq] at h; exact absurd h.1 ha
  exact key m 0 (by omega)

theorem impl_j1_bad (l : List Int) (x : ByteArray) (n : Int) (s : ByteArray) (c : Int) (hc : c ≠ 0) : Ev (fun k => impl_GetChunks.j1 k l x n s c) ((⟨#[]⟩ : ByteArray), 0, c) := by
  apply ev_succ
  simp only [impl_GetChunks.j1, if_neg hc]
  exact Ev.now _
theorem phL_range0 (t : List Int) : 0 ≤ (phL 0 0 t).1 ∧ (phL 0 0 t).1 < 65536 := phL_range t 0 0 (by omega) (by omega) (by simp)
theorem sizeR_n (r : List Int) : (sizeR r).1 = (phL 0 0 (tw r)).1 := by
  unfold sizeR
  split
  · rfl
  · split <;> rfl
theorem sizeR_good {r : List Int} (h : (sizeR r).2.2 = 0) : dw r = 13 :: 10 :: (sizeR r).2.1 := by
  unfold sizeR at h ⊢
  by_cases q : dw r = []
  · rw [if_pos q] at h
    simp only at h
    split at h <;> omega
  · rw [if_neg q] at h ⊢
    by_cases q1 : (phL 0 0 (tw r)).2 = true
    · rw [if_pos q1] at h ⊢
      exact endR_zero h
    · rw [if_neg q1] at h
      simp at h
theorem chunk_tail (l : List Int) (hl : l.length ≤ 4194304) (hr : ∀ x ∈ l, 0 ≤ x ∧ x < 256) (q n : Nat) (hql : q ≤ l.length) (hn' : n < 65536) (x : ByteArray) (hx : x.size ≤ 200)
    (next : ∀ (y : ByteArray), q + n + 2 ≤ l.length → y.size ≤ 200 → ∃ X, Ev (fun k => impl_GetChunks.l0 k l y (strOfNums (l.drop (q + n + 2))) 0) X ∧ Ev (fun k => spec_GetChunks.l0 k l ((q + n + 2 : Nat) : Int) y) X) :
    ∃ X, Ev (fun k => if ((x.size + n : Nat) : Int) > 200 then (impl_GetChunks.j1 k l x (n : Int) (strOfNums (l.drop q)) 413) else (if (n : Int) > ((l.length - q : Nat) : Int) then (impl_GetChunks.j1 k l x (n : Int) (strOfNums (l.drop q)) 1) else (if (0 : Int) ≤ (n : Int) then (if (n : Int) ≤ ((l.length - q : Nat) : Int) then (if x.size + ((strOfNums (l.drop q)).extract 0 n).size ≤ 9223372036854775807 then ((impl_chunks_end.f k ((strOfNums (l.drop q)).extract n (l.length - q)) 0).bind fun bt143 => (impl_GetChunks.j1 k l (x ++ ((strOfNums (l.drop q)).extract 0 n)) (n : Int) bt143.1 bt143.2)) else (none)) else (none)) else (none)))) X ∧
      Ev (fun k => if ((x.size + n : Nat) : Int) > 200 then (some ((⟨#[]⟩ : ByteArray), 0, 413)) else (if (n : Int) > ((l.length - q : Nat) : Int) then (some ((⟨#[]⟩ : ByteArray), 0, 1)) else (if (0 : Int) ≤ (q : Int) then (if (q : Int) ≤ ((q + n : Nat) : Int) then (if ((q + n : Nat) : Int) ≤ (l.length : Int) then (if x.size + (strOfNums ((l.take (q + n)).drop q)).size ≤ 9223372036854775807 then ((spec_l4End.f l ((q + n : Nat) : Int)).bind fun t122 => (if t122 = 0 then (if (n : Int) = 0 then (some (x ++ (strOfNums ((l.take (q + n)).drop q)), ((q + n + 2 : Nat) : Int), 0)) else (spec_GetChunks.l0 k l ((q + n + 2 : Nat) : Int) (x ++ (strOfNums ((l.take (q + n)).drop q))))) else (some ((⟨#[]⟩ : ByteArray), 0, t122)))) else (none)) else (none)) else (none)) else (none)))) X := by
  by_cases q1 : x.size + n > 200
  · have b1 : ((x.size + n : Nat) : Int) > 200 := by omega
    refine ⟨((⟨#[]⟩ : ByteArray), 0, 413), ?_, ?_⟩
    · simp only [if_pos b1]; exact impl_j1_bad _ _ _ _ _ (by decide)
    · simp only [if_pos b1]; exact Ev.now _
  have b1 : ¬ ((x.size + n : Nat) : Int) > 200 := by omega
  by_cases q2 : n > l.length - q
  · have b2 : (n : Int) > ((l.length - q : Nat) : Int) := by omega
    refine ⟨((⟨#[]⟩ : ByteArray), 0, 1), ?_, ?_⟩
    · simp only [if_neg b1, if_pos b2]; exact impl_j1_bad _ _ _ _ _ (by decide)
    · simp only [if_neg b1, if_pos b2]; exact Ev.now _
  have b2 : ¬ (n : Int) > ((l.length - q : Nat) : Int) := by omega
  have b3 : (0 : Int) ≤ (n : Int) := by omega
  have b4 : (n : Int) ≤ ((l.length - q : Nat) : Int) := by omega
  have b5 : x.size + n ≤ 9223372036854775807 := by omega
  have b6 : (0 : Int) ≤ (q : Int) := by omega
  have b7 : (q : Int) ≤ ((q + n : Nat) : Int) := by omega
  have b8 : ((q + n : Nat) : Int) ≤ (l.length : Int) := by omega
  have b9 : x.size + n ≤ 200 := by omega
  have b10 : q + n - q = n := by omega
  have b11 : l.length ≤ 9223372036854775000 := by omega
  have b12 : min n (l.length - q) = n := by omega
  have b13 : ∀ m : Nat, m ≤ l.length → wrap64 ((l.length : Int) - ((l.length - m : Nat) : Int)) = (m : Int) := by
    intro m hm
    rw [wrap_id (by omega) (by omega)]; omega
  have hlen : (l.drop q).length = l.length - q := List.length_drop
  have hqr : ∀ z ∈ l.drop q, 0 ≤ z ∧ z < 256 := fun z hz => hr z (List.mem_of_mem_drop hz)
  have e1 : (strOfNums (l.drop q)).extract 0 n = strOfNums ((l.drop q).take n) := by rw [so_cut _ hqr]; rfl
  have e2 : (strOfNums (l.drop q)).extract n (l.length - q) = strOfNums (l.drop (q + n)) := by
    have := so_from _ hqr n
    rw [strOfNums_size, hlen, List.drop_drop] at this
    exact this
  have e3 : (l.take (q + n)).drop q = (l.drop q).take n := by rw [List.drop_take, b10]
  have hsz1 : (strOfNums ((l.drop q).take n)).size = n := by rw [strOfNums_size, List.length_take, hlen, b12]
  have hend := end_ev (l.drop (q + n)) (fun z hz => hr z (List.mem_of_mem_drop hz))
  have hsend := l4End_eq l (q + n) b11
  simp only [if_neg b1, if_neg b2, if_pos b3, if_pos b4, if_pos b6, if_pos b7, if_pos b8, e1, e2, e3, hsz1, if_pos b5, hsend, Option.bind_some]
  by_cases hc2 : (endR (l.drop (q + n))).1 = 0
  · have hz := endR_zero hc2
    have hz2 : l.drop (q + n + 2) = (endR (l.drop (q + n))).2 := by rw [← List.drop_drop, hz]; rfl
    have hz3 : q + n + 2 ≤ l.length := by
      have h1 := congrArg List.length hz
      rw [List.length_drop, List.length_cons, List.length_cons] at h1
      revert h1
      generalize (endR (l.drop (q + n))).2.length = z
      clear hz hz2 hc2 hend hsend
      intro h1
      omega
    rw [← hz2, hc2] at hend
    simp only [hc2, if_true]
    rcases Nat.eq_zero_or_pos n with hn0 | hn0
    · subst hn0
      refine ⟨(x ++ strOfNums ((l.drop q).take 0), ((q + 0 + 2 : Nat) : Int), 0), Ev.bind hend ?_, ?_⟩
      · apply ev_succ
        simp only [impl_GetChunks.j1, if_true, strOfNums_size, List.length_drop]
        rw [b13 _ hz3]
        exact Ev.now _
      · exact Ev.now _
    · have b14 : ¬ (n : Int) = 0 := by
        clear hz hz2 hc2 hend hsend
        omega
      obtain ⟨X, hI, hS⟩ := next (x ++ strOfNums ((l.drop q).take n)) hz3 (by rw [ByteArray.size_append, hsz1]; exact b9)
      refine ⟨X, Ev.bind hend ?_, ?_⟩
      · apply ev_succ
        simp only [impl_GetChunks.j1, if_true, if_neg b14]
        exact hI
      · simp only [if_neg b14]; exact hS
  · simp only [if_neg hc2]
    exact ⟨((⟨#[]⟩ : ByteArray), 0, (endR (l.drop (q + n))).1), Ev.bind hend (impl_j1_bad _ _ _ _ _ hc2), Ev.now _⟩
theorem chunk_step (l : List Int) (hl : l.length ≤ 4194304) (hr : ∀ x ∈ l, 0 ≤ x ∧ x < 256) (p : Nat) (hp : p ≤ l.length) (x : ByteArray) (hx : x.size ≤ 200)
    (next : ∀ (q : Nat) (y : ByteArray), p < q → q ≤ l.length → y.size ≤ 200 → ∃ X, Ev (fun k => impl_GetChunks.l0 k l y (strOfNums (l.drop q)) 0) X ∧ Ev (fun k => spec_GetChunks.l0 k l (q : Int) y) X) :
    ∃ X, Ev (fun k => impl_GetChunks.l0 k l x (strOfNums (l.drop p)) 0) X ∧ Ev (fun k => spec_GetChunks.l0 k l (p : Int) x) X := by
  have hrr : ∀ z ∈ l.drop p, 0 ≤ z ∧ z < 256 := fun z hz => hr z (List.mem_of_mem_drop hz)
  have hsz := size_ev (l.drop p) hrr (by rw [List.length_drop]; omega)
  have hsp := spec_size_ev l hl hr p hp
  have hx' : (x.size : Int) ≤ 200 := by omega
  by_cases hc : (sizeR (l.drop p)).2.2 = 0
  · have hgood := sizeR_good hc
    have hn := phL_range0 (tw (l.drop p))
    rw [← sizeR_n] at hn
    have hsX : sizeX p (l.drop p) = ((sizeR (l.drop p)).1, ((p + (tw (l.drop p)).length + 2 : Nat) : Int), 0) := by unfold sizeX; rw [if_pos hc]
    rw [hsX] at hsp
    have htl := tw_len (l.drop p)
    rw [hgood, List.length_drop] at htl
    simp only [List.length_cons] at htl
    obtain ⟨q, hq⟩ : ∃ q, q = p + (tw (l.drop p)).length + 2 := ⟨_, rfl⟩
    rw [← hq] at hsp
    have hrest : l.drop q = (sizeR (l.drop p)).2.1 := by
      have e : l.drop (p + (tw (l.drop p)).length) = 13 :: 10 :: (sizeR (l.drop p)).2.1 := by rw [← List.drop_drop, dw_eq, hgood]
      rw [hq, show p + (tw (l.drop p)).length + 2 = (p + (tw (l.drop p)).length) + 2 from rfl, ← List.drop_drop, e]; rfl
    obtain ⟨n, hnn⟩ : ∃ n : Nat, (sizeR (l.drop p)).1 = (n : Int) := ⟨(sizeR (l.drop p)).1.toNat, by omega⟩
    rw [hc, ← hrest, hnn] at hsz
    rw [hnn] at hsp
    have hn' : n < 65536 := by omega
    have hql : q ≤ l.length := by omega
    have hpq : p < q := by omega
    have hlen : (l.drop q).length = l.length - q := List.length_drop
    have hss : (strOfNums (l.drop q)).size = l.length - q := by rw [strOfNums_size, hlen]
    have hqr : ∀ z ∈ l.drop q, 0 ≤ z ∧ z < 256 := fun z hz => hr z (List.mem_of_mem_drop hz)
    clear hrest hgood hsX htl hq hn hnn hrr hc hlen
    have hw : wrap64 ((x.size : Int) + (n : Int)) = ((x.size + n : Nat) : Int) := by rw [wrap_id (by omega) (by omega)]; omega
    have hwl : wrap64 ((l.length : Int) - (q : Int)) = ((l.length - q : Nat) : Int) := by rw [wrap_id (by omega) (by omega)]; omega
    have hwq : wrap64 ((q : Int) + (n : Int)) = ((q + n : Nat) : Int) := by rw [wrap_id (by omega) (by omega)]; omega
    have hwq2 : wrap64 (((q + n : Nat) : Int) + 2) = ((q + n + 2 : Nat) : Int) := by rw [wrap_id (by omega) (by omega)]; rfl
    have goI : ∀ X, Ev (fun k => if (wrap64 ((x.size : Int) + (n : Int))) > 200 then (impl_GetChunks.j1 k l x (n : Int) (strOfNums (l.drop q)) 413) else (if (n : Int) > ((strOfNums (l.drop q)).size : Int) then (impl_GetChunks.j1 k l x (n : Int) (strOfNums (l.drop q)) 1) else (if (0 : Int) ≤ (n : Int) then (if (n : Int) ≤ ((strOfNums (l.drop q)).size : Int) then (if x.size + ((strOfNums (l.drop q)).extract 0 (n : Int).toNat).size ≤ 9223372036854775807 then ((impl_chunks_end.f k ((strOfNums (l.drop q)).extract (n : Int).toNat (strOfNums (l.drop q)).size) 0).bind fun bt143 => (impl_GetChunks.j1 k l (x ++ ((strOfNums (l.drop q)).extract 0 (n : Int).toNat)) (n : Int) bt143.1 bt143.2)) else (none)) else (none)) else (none)))) X → Ev (fun k => impl_GetChunks.l0 k l x (strOfNums (l.drop p)) 0) X := by
      intro X h
      apply ev_succ
      simp only [impl_GetChunks.l0]
      refine Ev.bind hsz ?_
      simp only [if_true]
      exact h
    have goS : ∀ X, Ev (fun k => if (wrap64 ((x.size : Int) + (n : Int))) > 200 then (some ((⟨#[]⟩ : ByteArray), 0, 413)) else (if (n : Int) > (wrap64 ((l.length : Int) - (q : Int))) then (some ((⟨#[]⟩ : ByteArray), 0, 1)) else (if (0 : Int) ≤ (q : Int) then (if (q : Int) ≤ (wrap64 ((q : Int) + (n : Int))) then (if (wrap64 ((q : Int) + (n : Int))) ≤ (l.length : Int) then (if x.size + (strOfNums ((l.take ((wrap64 ((q : Int) + (n : Int))) : Int).toNat).drop (q : Int).toNat)).size ≤ 9223372036854775807 then ((spec_l4End.f l (wrap64 ((q : Int) + (n : Int)))).bind fun t122 => (if t122 = 0 then (if (n : Int) = 0 then (some (x ++ (strOfNums ((l.take ((wrap64 ((q : Int) + (n : Int))) : Int).toNat).drop (q : Int).toNat)), wrap64 ((wrap64 ((q : Int) + (n : Int))) + 2), 0)) else (spec_GetChunks.l0 k l (wrap64 ((wrap64 ((q : Int) + (n : Int))) + 2)) (x ++ (strOfNums ((l.take ((wrap64 ((q : Int) + (n : Int))) : Int).toNat).drop (q : Int).toNat))))) else (some ((⟨#[]⟩ : ByteArray), 0, t122)))) else (none)) else (none)) else (none)) else (none)))) X → Ev (fun k => spec_GetChunks.l0 k l (p : Int) x) X := by
      intro X h
      apply ev_succ
      simp only [spec_GetChunks.l0, if_pos hx']
      refine Ev.bind hsp ?_
      simp only [if_true]
      exact h
    simp only [hw, hwl, hwq, hwq2, hss, Int.toNat_natCast] at goI goS
    clear hw hwl hwq hwq2 hss
    have b : p < q + n + 2 := Nat.lt_of_lt_of_le hpq (by rw [Nat.add_assoc]; exact Nat.le_add_right _ _)
    obtain ⟨X, hI, hS⟩ := chunk_tail l hl hr q n hql hn' x hx (fun y h1 h2 => next _ y b h1 h2)
    exact ⟨X, goI X hI, goS X hS⟩
  · refine ⟨((⟨#[]⟩ : ByteArray), 0, (sizeR (l.drop p)).2.2), ?_, ?_⟩
    · apply ev_succ
      simp only [impl_GetChunks.l0]
      refine Ev.bind hsz ?_
      simp only [if_neg hc]
      exact impl_j1_bad _ _ _ _ _ hc
    · have hsX : sizeX p (l.drop p) = (0, 0, (sizeR (l.drop p)).2.2) := by unfold sizeX; rw [if_neg hc]
      rw [hsX] at hsp
      apply ev_succ
      simp only [spec_GetChunks.l0, if_pos hx']
      refine Ev.bind hsp ?_
      simp only [if_neg hc]
      exact Ev.now _
theorem chunks_ev (l : List Int) (hl : l.length ≤ 4194304) (hr : ∀ x ∈ l, 0 ≤ x ∧ x < 256) : ∀ (n p : Nat) (x : ByteArray), p ≤ l.length → l.length - p ≤ n → x.size ≤ 200 →
    ∃ X, Ev (fun k => impl_GetChunks.l0 k l x (strOfNums (l.drop p)) 0) X ∧ Ev (fun k => spec_GetChunks.l0 k l (p : Int) x) X
  | 0, p, x, hp, hn, hx => chunk_step l hl hr p hp x hx (fun q y h1 h2 _ => by omega)
  | n + 1, p, x, hp, hn, hx => chunk_step l hl hr p hp x hx (fun q y h1 h2 h3 => chunks_ev l hl hr n q y h2 (by omega) h3)
theorem GetChunks_ev (l : List Int) (hl : l.length ≤ 4194304) (hr : ∀ x ∈ l, 0 ≤ x ∧ x < 256) (p : Int) : ∃ X, Ev (fun k => impl_GetChunks.f k l p) X ∧ Ev (fun k => spec_GetChunks.f k l p) X := by
  unfold impl_GetChunks.f spec_GetChunks.f
  simp only [l1In_eq, in_eq, Option.bind_some]
  by_cases q : 0 ≤ p ∧ p ≤ (l.length : Int)
  · obtain ⟨X, h1, h2⟩ := chunks_ev l hl hr l.length p.toNat (⟨#[]⟩ : ByteArray) (by omega) (by omega) (by decide)
    rw [Int.toNat_of_nonneg q.1] at h2
    simp only [decide_eq_true q.1, decide_eq_true q.2, Bool.and_self, if_true, if_pos q.1, if_pos q.2]
    exact ⟨X, h1, h2⟩
  · have : (decide (0 ≤ p) && decide (p ≤ (l.length : Int))) = false := by
      rw [Bool.and_eq_false_iff]
      rcases Classical.not_and_iff_not_or_not.1 q with h | h
      · exact .inl (decide_eq_false h)
      · exact .inr (decide_eq_false h)
    simp only [this, Bool.false_eq_true, if_false]
    exact ⟨_, Ev.now _, Ev.now _⟩

/-! what is read of a body in pieces: the body, what stands behind, a code; and what more bytes behind change -/
def chR : Nat → List Int → List Int → List Int × List Int × Int
  | 0, _, _ => ([], [], 1)
  | n + 1, r, x =>
    if (sizeR r).2.2 ≠ 0 then ([], [], (sizeR r).2.2)
    else if 200 < x.length + (sizeR r).1.toNat then ([], [], 413)
    else if (sizeR r).2.1.length < (sizeR r).1.toNat then ([], [], 1)
    else if (endR ((sizeR r).2.1.drop (sizeR r).1.toNat)).1 ≠ 0 then ([], [], (endR ((sizeR r).2.1.drop (sizeR r).1.toNat)).1)
    else if (sizeR r).1.toNat = 0 then (x, (endR ((sizeR r).2.1.drop (sizeR r).1.toNat)).2, 0)
    else chR n (endR ((sizeR r).2.1.drop (sizeR r).1.toNat)).2 (x ++ (sizeR r).2.1.take (sizeR r).1.toNat)
theorem endR_len {r : List Int} (h : (endR r).1 = 0) : r.length = (endR r).2.length + 2 := by
  have := congrArg List.length (endR_zero h)
  simpa using this
theorem sizeR_len {r : List Int} (h : (sizeR r).2.2 = 0) : (sizeR r).2.1.length + 2 ≤ r.length := by
  have h1 := congrArg List.length (sizeR_good h)
  have h2 := tw_len r
  simp only [List.length_cons] at h1
  omega
theorem chR_len : ∀ (n : Nat) (r x : List Int), (chR n r x).2.2 = 0 → (chR n r x).2.1.length ≤ r.length
  | 0, r, x, h => by simp [chR] at h
  | n + 1, r, x, h => by
    rw [chR] at h ⊢
    by_cases c0 : (sizeR r).2.2 = 0
    · have el := sizeR_len c0
      rw [if_neg (fun h => h c0)] at h ⊢
      generalize (sizeR r).1.toNat = k at h ⊢
      generalize (sizeR r).2.1 = t at h el ⊢
      by_cases c1 : 200 < x.length + k
      · rw [if_pos c1] at h; exact absurd h (by decide)
      rw [if_neg c1] at h ⊢
      by_cases c2 : t.length < k
      · rw [if_pos c2] at h; exact absurd h (by decide)
      rw [if_neg c2] at h ⊢
      by_cases c4 : (endR (t.drop k)).1 = 0
      · rw [if_neg (fun h => h c4)] at h ⊢
        have h5 := endR_len c4
        rw [List.length_drop] at h5
        by_cases c6 : k = 0
        · rw [if_pos c6]; simp only []; omega
        · rw [if_neg c6] at h ⊢
          have := chR_len n _ _ h
          omega
      · rw [if_pos c4] at h; exact absurd h c4
    · rw [if_pos c0] at h; exact absurd h c0
def chV (l : List Int) (r : List Int × List Int × Int) : ByteArray × Int × Int := if r.2.2 = 0 then (strOfNums r.1, (l.length : Int) - (r.2.1.length : Int), 0) else ((⟨#[]⟩ : ByteArray), 0, r.2.2)
theorem chV_bad (l a b : List Int) {c : Int} (h : c ≠ 0) : chV l (a, b, c) = ((⟨#[]⟩ : ByteArray), 0, c) := by unfold chV; rw [if_neg h]
theorem chV_good (l a b : List Int) : chV l (a, b, 0) = (strOfNums a, (l.length : Int) - (b.length : Int), 0) := by unfold chV; rw [if_pos rfl]
theorem so_app (a b : List Int) (ha : ∀ x ∈ a, 0 ≤ x ∧ x < 256) (hb : ∀ x ∈ b, 0 ≤ x ∧ x < 256) : strOfNums a ++ strOfNums b = strOfNums (a ++ b) := by
  apply bytesOf_inj
  rw [bytesOf_append, bytesOf_strOfNums a ha, bytesOf_strOfNums b hb, bytesOf_strOfNums (a ++ b) (fun x hx => (List.mem_append.1 hx).elim (ha x) (hb x))]
theorem chunks_impl (l : List Int) (hl : l.length ≤ 4194304) : ∀ (n : Nat) (R x : List Int), R.length < n → R.length ≤ l.length → (∀ z ∈ R, 0 ≤ z ∧ z < 256) → (∀ z ∈ x, 0 ≤ z ∧ z < 256) → x.length ≤ 200 → Ev (fun k => impl_GetChunks.l0 k l (strOfNums x) (strOfNums R) 0) (chV l (chR n R x))
  | 0, R, x, h, _, _, _, _ => by omega
  | n + 1, R, x, hn, hR, hr, hxr, hx => by
    have hsz := size_ev R hr (by omega)
    rw [chR]
    apply ev_succ
    simp only [impl_GetChunks.l0]
    refine Ev.bind hsz ?_
    by_cases hc : (sizeR R).2.2 = 0
    · rw [if_neg (fun h => h hc)]
      have hlen := sizeR_len hc
      have hn0 := phL_range0 (tw R)
      rw [← sizeR_n] at hn0
      have htr : ∀ z ∈ (sizeR R).2.1, 0 ≤ z ∧ z < 256 := fun z hz => dw_range hr z (by rw [sizeR_good hc]; simp [hz])
      obtain ⟨m, hm⟩ : ∃ m : Nat, (sizeR R).1 = (m : Int) := ⟨(sizeR R).1.toNat, by omega⟩
      simp only [hc, if_true, hm, Int.toNat_natCast]
      rw [hm] at hn0
      generalize (sizeR R).2.1 = t at hlen htr
      clear hsz hc hm
      have hw : wrap64 (((strOfNums x).size : Int) + (m : Int)) = ((x.length + m : Nat) : Int) := by rw [strOfNums_size, wrap_id (by omega) (by omega)]; omega
      have hwl : ∀ u : List Int, u.length ≤ l.length → wrap64 ((l.length : Int) - ((strOfNums u).size : Int)) = (l.length : Int) - (u.length : Int) := by
        intro u hu; rw [strOfNums_size, wrap_id (by omega) (by omega)]
      have hts : (strOfNums t).size = t.length := strOfNums_size t
      have hxs : (strOfNums x).size = x.length := strOfNums_size x
      simp only [hw, hts]
      by_cases q1 : 200 < x.length + m
      · rw [if_pos q1, chV_bad _ _ _ (by decide)]
        simp only [if_pos (show ((x.length + m : Nat) : Int) > 200 by omega)]
        exact impl_j1_bad _ _ _ _ _ (by decide)
      rw [if_neg q1]
      simp only [if_neg (show ¬ ((x.length + m : Nat) : Int) > 200 by omega)]
      by_cases q2 : t.length < m
      · rw [if_pos q2, chV_bad _ _ _ (by decide)]
        simp only [if_pos (show (m : Int) > (t.length : Int) by omega)]
        exact impl_j1_bad _ _ _ _ _ (by decide)
      rw [if_neg q2]
      have e1 : (strOfNums t).extract 0 m = strOfNums (t.take m) := by rw [so_cut _ htr]; rfl
      have e2 : (strOfNums t).extract m t.length = strOfNums (t.drop m) := by
        have := so_from _ htr m
        rw [strOfNums_size] at this
        exact this
      have hsz1 : (strOfNums (t.take m)).size = m := by rw [strOfNums_size, List.length_take]; omega
      have hend := end_ev (t.drop m) (fun z hz => htr z (List.mem_of_mem_drop hz))
      simp only [if_neg (show ¬ (m : Int) > (t.length : Int) by omega), if_pos (show (0 : Int) ≤ (m : Int) by omega), if_pos (show (m : Int) ≤ (t.length : Int) by omega), e1, e2, hsz1, hxs, if_pos (show x.length + m ≤ 9223372036854775807 by omega)]
      refine Ev.bind hend ?_
      have e3 : strOfNums x ++ strOfNums (t.take m) = strOfNums (x ++ t.take m) := so_app _ _ hxr (fun z hz => htr z (List.mem_of_mem_take hz))
      simp only [e3]
      by_cases q3 : (endR (t.drop m)).1 = 0
      · rw [if_neg (fun h => h q3)]
        have h5 := endR_len q3
        have hz := endR_zero q3
        have hur : ∀ z ∈ (endR (t.drop m)).2, 0 ≤ z ∧ z < 256 := fun z hz' => htr z (List.mem_of_mem_drop (i := m) (by rw [hz]; simp [hz']))
        rw [List.length_drop] at h5
        rw [q3]
        generalize (endR (t.drop m)).2 = u at h5 hur
        clear hend hz q3
        apply ev_succ
        simp only [impl_GetChunks.j1, if_true]
        by_cases q4 : m = 0
        · rw [if_pos q4, chV_good]
          subst q4
          simp only [if_pos (show ((0 : Nat) : Int) = 0 from rfl), List.take_zero, List.append_nil]
          rw [hwl u (by omega)]
          exact Ev.now _
        · rw [if_neg q4]
          simp only [if_neg (show ¬ (m : Int) = 0 by omega)]
          refine chunks_impl l hl n u (x ++ t.take m) (by omega) (by omega) hur ?_ (by rw [List.length_append, List.length_take]; omega)
          intro z hz
          rcases List.mem_append.1 hz with hz | hz
          · exact hxr z hz
          · exact htr z (List.mem_of_mem_take hz)
      · rw [if_pos q3, chV_bad _ _ _ q3]
        exact impl_j1_bad _ _ _ _ _ q3
    · rw [if_pos hc, chV_bad _ _ _ hc]
      simp only [if_neg hc]
      exact impl_j1_bad _ _ _ _ _ hc
theorem GetChunks_impl (l : List Int) (hl : l.length ≤ 4194304) (hr : ∀ x ∈ l, 0 ≤ x ∧ x < 256) (p : Nat) (hp : p ≤ l.length) (n : Nat) (hn : (l.drop p).length < n) : Ev (fun k => impl_GetChunks.f k l (p : Int)) (chV l (chR n (l.drop p) [])) := by
  unfold impl_GetChunks.f
  simp only [in_eq, Option.bind_some, decide_eq_true (show (0 : Int) ≤ (p : Int) by omega), decide_eq_true (show (p : Int) ≤ (l.length : Int) by omega), Bool.and_self, if_true, if_pos (show (0 : Int) ≤ (p : Int) by omega), if_pos (show (p : Int) ≤ (l.length : Int) by omega), Int.toNat_natCast]
  exact chunks_impl l hl n (l.drop p) [] hn (by rw [List.length_drop]; omega) (fun z hz => hr z (List.mem_of_mem_drop hz)) (by simp) (by simp)

theorem data_bytesB (s : ByteArray) : s.data.toList = (bytesOf s).map fun n => UInt8.ofNat n.toNat := by
  have h := congrArg (fun b : ByteArray => b.data.toList) (strOfNums_bytesOf s)
  simp only [strOfNums_data] at h
  exact h.symm

/-- a text's lines; cur: the line that is open -/
def splC : List Int → List Int → List (List Int)
  | cur, [] => [cur]
  | cur, [c] => [cur ++ [c]]
  | cur, c :: d :: r => if c = 13 ∧ d = 10 then cur :: splC [] r else splC (cur ++ [c]) (d :: r)
def linesC (l : List Int) : List ByteArray := (splC [] l).map strOfNums
/-- the place of the first line's end; none: there is none -/
def fnd2 : List Int → Option Nat
  | [] => none
  | [_] => none
  | c :: d :: r => if c = 13 ∧ d = 10 then some 0 else (fnd2 (d :: r)).map (· + 1)
theorem splC_cut : ∀ (l cur : List Int), splC cur l = match fnd2 l with
    | none => [cur ++ l]
    | some i => (cur ++ l.take i) :: splC [] (l.drop (i + 2))
  | [], cur => by simp [splC, fnd2]
  | [c], cur => by simp [splC, fnd2]
  | c :: d :: r, cur => by
    rw [splC, fnd2]
    by_cases q : c = 13 ∧ d = 10
    · rw [if_pos q, if_pos q]; simp
    · rw [if_neg q, if_neg q, splC_cut (d :: r) (cur ++ [c])]
      cases h : fnd2 (d :: r) with
      | none => simp
      | some i => simp
theorem fnd2_le : ∀ (l : List Int) (i : Nat), fnd2 l = some i → i + 2 ≤ l.length
  | [], i, h => by simp [fnd2] at h
  | [c], i, h => by simp [fnd2] at h
  | c :: d :: r, i, h => by
    rw [fnd2] at h
    split at h
    · injection h with h; subst h; simp
    · cases h2 : fnd2 (d :: r) with
      | none => rw [h2] at h; cases h
      | some j =>
        rw [h2] at h
        simp only [Option.map_some, Option.some.injEq] at h
        have h3 := fnd2_le (d :: r) j h2
        simp only [List.length_cons] at h3 ⊢
        omega
theorem pre2 (t : List Int) (hr : ∀ x ∈ t, 0 ≤ x ∧ x < 256) : ([13, 10] : List UInt8).isPrefixOf (t.map fun n => UInt8.ofNat n.toNat) = decide (t.take 2 = [13, 10]) := by
  match t, hr with
  | [], _ => rfl
  | [a], _ => simp [List.isPrefixOf]
  | a :: b :: r, hr =>
    have ha := hr a (by simp); have hb := hr b (by simp)
    have e1 := u8_eq ha.1 ha.2 13 (by omega); have e2 := u8_eq hb.1 hb.2 10 (by omega)
    simp only [List.map_cons, List.isPrefixOf, Bool.and_true]
    have c13 : (13 : UInt8) = UInt8.ofNat 13 := rfl
    have c10 : (10 : UInt8) = UInt8.ofNat 10 := rfl
    rw [c13, c10, e1, e2]
    rw [Bool.eq_iff_iff]
    simp
theorem index_fnd2 : ∀ (t : List Int), (∀ x ∈ t, 0 ≤ x ∧ x < 256) → Lib.index (t.map fun n => UInt8.ofNat n.toNat) [13, 10] = match fnd2 t with
    | none => (-1 : Int)
    | some i => (i : Int)
  | [], _ => rfl
  | [c], hr => by
    have hp := pre2 [c] hr
    simp only [List.map_cons, List.map_nil] at hp ⊢
    rw [Lib.index, hp]
    simp [fnd2, Lib.index]
  | c :: d :: r, hr => by
    have hp := pre2 (c :: d :: r) hr
    have ih := index_fnd2 (d :: r) (fun x hx => hr x (by simp [hx]))
    rw [List.map_cons] at hp ⊢
    rw [Lib.index, hp, fnd2, ih]
    by_cases q : c = 13 ∧ d = 10
    · rw [if_pos q, q.1, q.2]; rfl
    · rw [if_neg q, decide_eq_false (by simpa using q)]
      cases h : fnd2 (d :: r) with
      | none => rfl
      | some i =>
        simp only [Option.map_some, Bool.false_eq_true, if_false]
        rw [if_neg (by simp only [beq_iff_eq]; omega)]
        simp
theorem indexC (s : ByteArray) : Lib.indexB s ⟨#[13, 10]⟩ = match fnd2 (bytesOf s) with
    | none => (-1 : Int)
    | some i => (i : Int) := by
  show Lib.index s.data.toList [13, 10] = _
  rw [data_bytesB, index_fnd2 _ (bytesOf_range s)]
theorem splitB_linesC : ∀ (n : Nat) (s : ByteArray), s.size ≤ n → Lib.splitB ⟨#[13, 10]⟩ 0 (Lib.countB s ⟨#[13, 10]⟩) s = linesC (bytesOf s) := by
  intro n
  induction n with
  | zero =>
    intro s h
    have h0 : bytesOf s = [] := List.eq_nil_of_length_eq_zero (by rw [bytesOf_length]; omega)
    have hi : Lib.indexB s ⟨#[13, 10]⟩ = -1 := by rw [indexC, h0]; rfl
    rw [Lib.splitB_miss _ _ _ _ hi]
    unfold linesC
    rw [h0]
    have : s = strOfNums [] := by rw [← h0, strOfNums_bytesOf]
    rw [this]; rfl
  | succ n ih =>
    intro s h
    have hi := indexC s
    unfold linesC
    rw [splC_cut]
    cases q : fnd2 (bytesOf s) with
    | none =>
      rw [q] at hi
      rw [Lib.splitB_miss _ _ _ _ hi]
      simp [strOfNums_bytesOf]
    | some i =>
      rw [q] at hi
      simp only [] at hi ⊢
      have hle := fnd2_le _ _ q
      rw [bytesOf_length] at hle
      have h1 : 1 ≤ (⟨#[13, 10]⟩ : ByteArray).size := by decide
      rw [Lib.countB_hit s ⟨#[13, 10]⟩ _ h1 hi, Nat.add_comm, Lib.splitB_hit _ _ _ _ _ hi]
      have e1 : bytesOf (s.extract (i + (⟨#[13, 10]⟩ : ByteArray).size) s.size) = (bytesOf s).drop (i + 2) := by
        rw [bytesOf_extract, List.take_of_length_le (by rw [bytesOf_length]; exact Nat.le_refl _)]
        rfl
      have e2 : s.extract 0 (i + 0) = strOfNums ((bytesOf s).take i) := by
        apply bytesOf_inj
        rw [bytesOf_extract, Nat.add_zero, List.drop_zero, bytesOf_strOfNums]
        intro x hx
        exact bytesOf_range s x (List.mem_of_mem_take hx)
      have hsz : (s.extract (i + (⟨#[13, 10]⟩ : ByteArray).size) s.size).size ≤ n := by
        rw [size_len, e1, List.length_drop, bytesOf_length]; omega
      rw [ih _ hsz, e1, e2]
      simp [linesC]
theorem take_snocC {l : List Int} {i st : Nat} {c : Int} {r : List Int} (h : l.drop i = c :: r) (hs : st ≤ i) : (l.take (i + 1)).drop st = (l.take i).drop st ++ [c] := by
  obtain ⟨_, h2, _, h4⟩ := l_drop h
  rw [List.take_add_one, h4, Option.toList_some, List.drop_append_of_le_length (by rw [List.length_take]; omega)]

theorem pre4 (t : List Int) (hr : ∀ x ∈ t, 0 ≤ x ∧ x < 256) : ([13, 10, 13, 10] : List UInt8).isPrefixOf (t.map fun n => UInt8.ofNat n.toNat) = decide (t.take 4 = [13, 10, 13, 10]) := by
  match t, hr with
  | [], _ => rfl
  | [a], _ => simp [List.isPrefixOf]
  | [a, b], _ => simp [List.isPrefixOf]
  | [a, b, c], _ => simp [List.isPrefixOf]
  | a :: b :: c :: d :: r, hr =>
    have ha := hr a (by simp); have hb := hr b (by simp); have hc := hr c (by simp); have hd := hr d (by simp)
    have e1 := u8_eq ha.1 ha.2 13 (by omega); have e2 := u8_eq hb.1 hb.2 10 (by omega); have e3 := u8_eq hc.1 hc.2 13 (by omega); have e4 := u8_eq hd.1 hd.2 10 (by omega)
    simp only [List.map_cons, List.isPrefixOf, Bool.and_true]
    have c13 : (13 : UInt8) = UInt8.ofNat 13 := rfl
    have c10 : (10 : UInt8) = UInt8.ofNat 10 := rfl
    rw [c13, c10, e1, e2, e3, e4]
    rw [Bool.eq_iff_iff]
    simp
/-- the place behind the first empty line, from place i on -/
def fnd4 : Nat → List Int → Int
  | _, [] => -1
  | i, c :: r => if (c :: r).take 4 = [13, 10, 13, 10] then (i : Int) + 4 else fnd4 (i + 1) r
theorem fnd4_short : ∀ (t : List Int) (i : Nat), t.length < 4 → fnd4 i t = -1
  | [], _, _ => rfl
  | c :: r, i, h => by
    rw [fnd4, if_neg, fnd4_short r (i + 1) (by simp at h; omega)]
    intro e
    have := congrArg List.length e
    simp at this h
    omega
theorem fnd4_bound : ∀ (t : List Int) (i : Nat), fnd4 i t ≤ i + t.length ∧ -1 ≤ fnd4 i t
  | [], _ => by simp [fnd4]
  | c :: r, i => by
    rw [fnd4]
    split
    · rename_i e
      have := congrArg List.length e
      simp at this
      simp; omega
    · have := fnd4_bound r (i + 1)
      simp; omega
theorem index_fnd4 : ∀ (t : List Int) (i : Nat), (∀ x ∈ t, 0 ≤ x ∧ x < 256) → (if Lib.index (t.map fun n => UInt8.ofNat n.toNat) [13, 10, 13, 10] < 0 then (-1 : Int) else i + Lib.index (t.map fun n => UInt8.ofNat n.toNat) [13, 10, 13, 10] + 4) = fnd4 i t
  | [], i, _ => rfl
  | c :: r, i, hr => by
    have hp := pre4 (c :: r) hr
    have ih := index_fnd4 r (i + 1) (fun x hx => hr x (by simp [hx]))
    have hg := Lib.index_ge (r.map fun n => UInt8.ofNat n.toNat) [13, 10, 13, 10]
    rw [List.map_cons] at hp ⊢
    rw [Lib.index, hp, fnd4]
    by_cases q : (c :: r).take 4 = [13, 10, 13, 10]
    · rw [if_pos q, decide_eq_true q]; simp
    · rw [if_neg q, decide_eq_false q, ← ih]
      simp only [Bool.false_eq_true, if_false, beq_iff_eq]
      by_cases q1 : Lib.index (r.map fun n => UInt8.ofNat n.toNat) [13, 10, 13, 10] = -1
      · rw [if_pos q1, q1]; rfl
      · rw [if_neg q1, if_neg (by omega), if_neg (by omega)]
        rw [show ((i + 1 : Nat) : Int) = i + 1 from rfl]; omega
def headEnd (l : List Int) : Int := fnd4 0 (l.take 400)
theorem mn_len (l : List Int) : mn (l.length : Int) 400 = ((min l.length 400 : Nat) : Int) := by unfold mn; split <;> omega
theorem take_min (l : List Int) : l.take (min l.length 400) = l.take 400 := by
  rcases Nat.le_total l.length 400 with h | h
  · rw [Nat.min_eq_left h, List.take_of_length_le (Nat.le_refl _), List.take_of_length_le h]
  · rw [Nat.min_eq_right h]
theorem impl_HeadEnd_eq (l : List Int) (hr : ∀ x ∈ l, 0 ≤ x ∧ x < 256) : impl_HeadEnd.f l = some (headEnd l) := by
  unfold impl_HeadEnd.f
  have hm := mn_len l
  rw [hm, if_pos (by omega), if_pos (by omega), Int.toNat_natCast, take_min]
  have hsz : (strOfNums (l.take 400)).size ≤ 400 := by rw [strOfNums_size, List.length_take]; omega
  unfold strings_Index.f
  rw [if_pos (by omega), Option.bind_some, strOfNums_data]
  have h0 := index_fnd4 (l.take 400) 0 (fun x hx => hr x (List.mem_of_mem_take hx))
  have hg := Lib.index_ge ((l.take 400).map fun n => UInt8.ofNat n.toNat) [13, 10, 13, 10]
  have hl := Lib.index_le ((l.take 400).map fun n => UInt8.ofNat n.toNat) [13, 10, 13, 10]
  rw [List.length_map, List.length_take] at hl
  unfold headEnd
  rw [← h0]
  change (if Lib.index ((l.take 400).map fun n => UInt8.ofNat n.toNat) [13, 10, 13, 10] < 0 then some (-1) else some (wrap64 (Lib.index ((l.take 400).map fun n => UInt8.ofNat n.toNat) [13, 10, 13, 10] + 4))) = _
  by_cases q : Lib.index ((l.take 400).map fun n => UInt8.ofNat n.toNat) [13, 10, 13, 10] < 0
  · rw [if_pos q, if_pos q]
  · rw [if_neg q, if_neg q, wrap_id (by omega) (by omega)]; congr 1; simp
theorem spec_HeadEnd_ev (l : List Int) (hl : l.length ≤ 9223372036854775000) (hr : ∀ x ∈ l, 0 ≤ x ∧ x < 256) : Ev (fun k => spec_HeadEnd.f k l) (headEnd l) := by
  have key : ∀ (n i : Nat), i + n = 400 → Ev (fun k => spec_HeadEnd.l0 k l (i : Int)) (fnd4 i ((l.take 400).drop i)) := by
    intro n
    induction n with
    | zero =>
      intro i hi
      have e0 : (l.take 400).drop i = [] := List.drop_eq_nil_of_le (by rw [List.length_take]; omega)
      rw [e0, fnd4]
      apply ev_succ
      simp only [spec_HeadEnd.l0]
      refine ev_ite (fun _ => ?_) (fun _ => ?_)
      · rw [decide_eq_false (by unfold wrap64; omega)]
        apply ev_succ; simp only [spec_HeadEnd.j1, Bool.false_eq_true, if_false]; exact Ev.now _
      · apply ev_succ; simp only [spec_HeadEnd.j1, Bool.false_eq_true, if_false]; exact Ev.now _
    | succ n ih =>
      intro i hi
      rcases Nat.lt_or_ge i 400 with hlt | hge
      · have hw3 : wrap64 ((i : Int) + 3) = ((i + 3 : Nat) : Int) := by rw [wrap_id (by omega) (by omega)]; rfl
        have hw4 : wrap64 ((i : Int) + 4) = ((i + 4 : Nat) : Int) := by rw [wrap_id (by omega) (by omega)]; rfl
        have hw1 : wrap64 ((i : Int) + 1) = ((i + 1 : Nat) : Int) := by rw [wrap_id (by omega) (by omega)]; rfl
        have jf : Ev (fun k => spec_HeadEnd.j1 k l (i : Int) false) (-1) := by
          apply ev_succ; simp only [spec_HeadEnd.j1, Bool.false_eq_true, if_false]; exact Ev.now _
        apply ev_succ
        simp only [spec_HeadEnd.l0, hw3]
        refine ev_ite (fun q => ?_) (fun q => ?_)
        · by_cases q1 : ((i + 3 : Nat) : Int) < 400
          · rw [decide_eq_true q1]
            have hL : i < (l.take 400).length := by rw [List.length_take]; omega
            have ht : ((l.take 400).drop i) = (l.take 400)[i] :: (l.take 400).drop (i + 1) := List.drop_eq_getElem_cons hL
            have h4 : ((l.take 400).drop i).take 4 = (l.take (i + 4)).drop i := by
              rw [List.take_drop, List.take_take, show min (i + 4) 400 = i + 4 by omega]
            apply ev_succ
            simp only [spec_HeadEnd.j1, if_true, hw4, hw1, if_pos (show (0 : Int) ≤ (i : Int) by omega), if_pos (show (i : Int) ≤ ((i + 4 : Nat) : Int) by omega), if_pos (show ((i + 4 : Nat) : Int) ≤ l.length by omega), Int.toNat_natCast]
            have hc : ((strOfNums ((l.take (i + 4)).drop i)).toList = ([13, 10, 13, 10] : List UInt8)) ↔ (l.take (i + 4)).drop i = [13, 10, 13, 10] := by
              rw [Lib.toList_data, strOfNums_data]
              have hb := bytesOf_strOfNums ((l.take (i + 4)).drop i) (fun x hx => hr x (List.mem_of_mem_take (List.mem_of_mem_drop hx)))
              unfold bytesOf at hb
              rw [strOfNums_data] at hb
              constructor
              · intro h; rw [h] at hb; rw [← hb]; rfl
              · intro h; rw [h]; rfl
            rw [ht, fnd4, ← ht, h4]
            refine ev_ite (fun q2 => ?_) (fun q2 => ?_)
            · rw [if_pos (hc.mp q2)]; exact Ev.now _
            · rw [if_neg (fun h => q2 (hc.mpr h))]; exact ih (i + 1) (by omega)
          · rw [decide_eq_false q1, fnd4_short _ _ (by rw [List.length_drop, List.length_take]; omega)]; exact jf
        · rw [fnd4_short _ _ (by rw [List.length_drop, List.length_take]; omega)]; exact jf
      · omega
  exact key 400 0 rfl

/-- the digits of a number, as bytes -/
def numD (u : Nat) : List Int := (Lib.decDigits u).map fun b => (b.toNat : Int)
theorem numD_step (u : Nat) (h : 9 < u) : numD u = numD (u / 10) ++ [48 + ((u % 10 : Nat) : Int)] := by
  unfold numD
  rw [Lib.decDigits, dif_neg (by omega), List.map_append]
  congr 1
  simp only [List.map_cons, List.map_nil, List.cons.injEq, and_true]
  rw [show (UInt8.ofNat (48 + u % 10)).toNat = 48 + u % 10 from by simp; omega]
  omega
theorem numD_low (u : Nat) (h : u ≤ 9) : numD u = [48 + (u : Int)] := by
  unfold numD
  rw [Lib.decDigits, dif_pos (by omega)]
  simp only [List.map_cons, List.map_nil, List.cons.injEq, and_true]
  rw [show (UInt8.ofNat (48 + u)).toNat = 48 + u from by simp; omega]
  omega
theorem numD_range (u : Nat) : ∀ x ∈ numD u, 0 ≤ x ∧ x < 256 := by
  intro x hx
  obtain ⟨b, _, rfl⟩ := List.mem_map.1 hx
  have := b.toNat_lt
  omega
theorem strNum (u : Nat) : (⟨(Lib.decDigits u).toArray⟩ : ByteArray) = strOfNums (numD u) := by
  apply bytesOf_inj
  rw [bytesOf_strOfNums _ (numD_range u), bytesOf_mk]; rfl
theorem numD_len : ∀ (k u : Nat), u < 10 ^ (k + 1) → (numD u).length ≤ k + 1
  | 0, u, h => by rw [numD_low u (by simpa using Nat.le_of_lt_succ h)]; simp
  | k + 1, u, h => by
    rcases Nat.lt_or_ge 9 u with h9 | h9
    · rw [numD_step u h9, List.length_append]
      have := numD_len k (u / 10) (by rw [Nat.pow_succ] at h; omega)
      simp; omega
    · rw [numD_low u h9]; simp
/-- one digit in front -/
theorem digit_byte (u : Nat) (hu : u ≤ 9223372036854775807) : wrap64 (48 + Int.tmod (u : Int) 10) % 256 = 48 + ((u % 10 : Nat) : Int) := by
  have e : Int.tmod (u : Int) 10 = ((u % 10 : Nat) : Int) := by rw [Int.tmod_eq_emod_of_nonneg (by omega)]; omega
  rw [e, wrap_id (by omega) (by omega)]
  omega
theorem tdiv_ten (u : Nat) (hu : u ≤ 9223372036854775807) : wrap64 (Int.tdiv (u : Int) 10) = ((u / 10 : Nat) : Int) := by
  rw [Int.tdiv_eq_ediv_of_nonneg (by omega), wrap_id (by omega) (by omega)]
  omega

/-- digits, read as a number -/
def decL : Int → List Int → Option Int
  | a, [] => some a
  | a, c :: r => if 48 ≤ c ∧ c ≤ 57 then decL (a * 10 + (c - 48)) r else none
theorem decL_from : ∀ (l : List UInt8) (acc : Nat), decL (acc : Int) (l.map fun b => (b.toNat : Int)) = (Lib.decFrom acc l).map fun m => (m : Int)
  | [], _ => rfl
  | c :: r, acc => by
    simp only [List.map_cons, decL, Lib.decFrom, Lib.digitVal]
    by_cases h : 48 ≤ c.toNat ∧ c.toNat ≤ 57
    · rw [if_pos h, if_pos (by omega), ← decL_from r]
      congr 1; omega
    · rw [if_neg h, if_neg (by omega)]; rfl
theorem decL_snoc : ∀ (l : List Int) (a c : Int), decL a (l ++ [c]) = (decL a l).bind fun m => if 48 ≤ c ∧ c ≤ 57 then some (m * 10 + (c - 48)) else none
  | [], a, c => by simp [decL]
  | d :: r, a, c => by
    simp only [List.cons_append, decL]
    split
    · exact decL_snoc r _ c
    · rfl
theorem decL_le : ∀ (l : List Int) (a m : Int), 0 ≤ a → decL a l = some m → 0 ≤ m ∧ m < (a + 1) * 10 ^ l.length
  | [], a, m, ha, h => by simp only [decL, Option.some.injEq] at h; subst h; simp; omega
  | c :: r, a, m, ha, h => by
    simp only [decL] at h
    split at h
    · have := decL_le r _ m (by omega) h
      refine ⟨this.1, Int.lt_of_lt_of_le this.2 ?_⟩
      rw [List.length_cons, Int.pow_succ, Int.mul_comm (10 ^ r.length) 10, ← Int.mul_assoc]
      exact Int.mul_le_mul_of_nonneg_right (by omega) (Int.le_of_lt (Int.pow_pos (by decide)))
    · cases h
theorem numD_ne (u : Nat) : numD u ≠ [] := by
  rcases Nat.lt_or_ge 9 u with h9 | h9
  · rw [numD_step u h9]; simp
  · rw [numD_low u h9]; simp
theorem decL_numD (u : Nat) : decL 0 (numD u) = some (u : Int) := by
  induction u using Nat.strongRecOn with
  | _ u ih =>
    rcases Nat.lt_or_ge 9 u with h9 | h9
    · rw [numD_step u h9, decL_snoc, ih (u / 10) (by omega), Option.bind_some, if_pos (by omega)]
      congr 1; omega
    · rw [numD_low u h9]
      simp only [decL]
      rw [if_pos (by omega)]
      congr 1; omega
theorem numD_48 (u : Nat) : ∀ r, numD u = 48 :: r → u = 0 := by
  induction u using Nat.strongRecOn with
  | _ u ih =>
    intro r h
    rcases Nat.lt_or_ge 9 u with h9 | h9
    · rw [numD_step u h9] at h
      cases hd : numD (u / 10) with
      | nil => have := numD_ne (u / 10); exact absurd hd this
      | cons c t =>
        rw [hd, List.cons_append] at h
        obtain ⟨rfl, _⟩ := List.cons.inj h
        have := ih (u / 10) (by omega) t hd
        omega
    · rw [numD_low u h9] at h
      have := (List.cons.inj h).1
      omega
theorem numD_dig (u : Nat) : ∀ c ∈ numD u, 48 ≤ c ∧ c ≤ 57 := by
  induction u using Nat.strongRecOn with
  | _ u ih =>
    intro c h
    rcases Nat.lt_or_ge 9 u with h9 | h9
    · rw [numD_step u h9, List.mem_append] at h
      rcases h with h | h
      · exact ih (u / 10) (by omega) c h
      · simp at h; omega
    · rw [numD_low u h9] at h
      simp at h; omega
/-- what digits without a 0 ahead spell has these digits -/
theorem numD_dec : ∀ (n : Nat) (l : List Int) (m : Int), l.length = n + 1 → decL 0 l = some m → (n = 0 ∨ ∀ r, l ≠ 48 :: r) → numD m.toNat = l
  | 0, l, m, hl, h, _ => by
    obtain ⟨c, rfl⟩ := List.length_eq_one_iff.1 hl
    simp only [decL] at h
    split at h
    · obtain rfl := Option.some.inj h
      rw [numD_low _ (by omega)]
      congr 1; omega
    · cases h
  | n + 1, l, m, hl, h, h0 => by
    replace h0 : ∀ r, l ≠ 48 :: r := by
      rcases h0 with h0 | h0
      · omega
      · exact h0
    obtain ⟨l', c, rfl⟩ : ∃ l' c, l = l' ++ [c] := ⟨l.dropLast, l.getLast (by intro e; subst e; simp at hl), (List.dropLast_concat_getLast _).symm⟩
    have hl' : l'.length = n + 1 := by simp at hl; omega
    rw [decL_snoc] at h
    obtain ⟨m', hm', h⟩ := Option.bind_eq_some_iff.1 h
    split at h
    · rename_i hc
      obtain rfl := Option.some.inj h
      have hb := decL_le l' 0 m' (by omega) hm'
      have h0' : ∀ r, l' ≠ 48 :: r := fun r e => h0 (r ++ [c]) (by rw [e]; rfl)
      have ih := numD_dec n l' m' hl' hm' (.inr h0')
      have h1 : 0 < m'.toNat := by
        rcases Nat.eq_zero_or_pos m'.toNat with e | e
        · rw [e, numD_low 0 (by omega)] at ih
          exact absurd ih.symm (h0' [])
        · exact e
      rw [numD_step _ (by omega), show (m' * 10 + (c - 48)).toNat / 10 = m'.toNat from by omega, ih]
      congr 2; omega
    · cases h

theorem impl_NumText_eq (n : Int) (hn : n ≤ 9223372036854775807) : impl_NumText.f n = some (strOfNums (numD n.toNat)) := by
  have e : mx n 0 = ((n.toNat : Nat) : Int) := by unfold mx; split <;> omega
  unfold impl_NumText.f
  rw [e]
  unfold strconv_Itoa.f
  rw [if_pos (by omega), Option.bind_some]
  unfold Lib.itoa
  rw [if_neg (by omega), Int.toNat_natCast, strNum]

/-- a number of at most seven digits, no 0 ahead, not above a bound -/
def pnum (s : ByteArray) (most : Int) : Int × Bool :=
  match decL 0 (bytesOf s) with
  | none => (0, false)
  | some n => if 1 ≤ s.size ∧ s.size ≤ 7 ∧ ¬ (1 < s.size ∧ (bytesOf s).head? = some 48) ∧ n ≤ most then (n, true) else (0, false)
theorem pnum_yes (s : ByteArray) (most : Int) (u : Nat) (hu : bytesOf s = numD u) (h7 : s.size ≤ 7) (hm : (u : Int) ≤ most) : pnum s most = ((u : Int), true) := by
  unfold pnum
  rw [hu, decL_numD]
  have hne := numD_ne u
  have hl : s.size = (numD u).length := by rw [← hu, bytesOf_length]
  have h1 : 1 ≤ s.size := by
    rcases Nat.eq_zero_or_pos s.size with e | e
    · rw [e] at hl; exact absurd (List.length_eq_zero_iff.1 hl.symm) hne
    · exact e
  refine if_pos ⟨h1, h7, ?_, hm⟩
  rintro ⟨h2, h3⟩
  cases hd : numD u with
  | nil => exact hne hd
  | cons c r =>
    rw [hd] at h3 hl
    simp only [List.head?_cons, Option.some.injEq] at h3
    subst h3
    have := numD_48 u r hd
    subst this
    rw [numD_low 0 (by omega)] at hd
    obtain ⟨_, rfl⟩ := List.cons.inj hd
    simp at hl; omega
theorem pnum_no (s : ByteArray) (most : Int) (h : ∀ u : Nat, bytesOf s = numD u → s.size ≤ 7 → ¬ (u : Int) ≤ most) : pnum s most = (0, false) := by
  unfold pnum
  cases hd : decL 0 (bytesOf s) with
  | none => rfl
  | some n =>
    refine if_neg ?_
    rintro ⟨h1, h7, h0, hm⟩
    have hb := decL_le _ 0 n (by omega) hd
    have hl := bytesOf_length s
    have := numD_dec (s.size - 1) (bytesOf s) n (by omega) hd (by
      rcases Nat.eq_zero_or_pos (s.size - 1) with e | e
      · exact .inl e
      · refine .inr fun r hr => h0 ⟨by omega, by rw [hr]; rfl⟩)
    exact h n.toNat this.symm h7 (by omega)
theorem impl_ParseNum_eq (s : ByteArray) (most : Int) (hs : s.size ≤ 281474976710656) : impl_ParseNum.f s most = some (pnum s most) := by
  unfold impl_ParseNum.f
  rw [if_pos hs]
  have hbs : bytesOf s = s.data.toList.map fun b => (b.toNat : Int) := rfl
  by_cases hy : ∃ u : Nat, bytesOf s = numD u ∧ s.size ≤ 7 ∧ (u : Int) ≤ most
  · obtain ⟨u, hu, h7, hm⟩ := hy
    rw [pnum_yes s most u hu h7 hm]
    have hlen : s.data.toList.length ≤ 18 := by have := data_length s; omega
    have hdec : Lib.decFrom 0 s.data.toList = some u := by
      have h1 := decL_from s.data.toList 0
      rw [← hbs, hu, show ((0 : Nat) : Int) = 0 from rfl, decL_numD] at h1
      cases hd : Lib.decFrom 0 s.data.toList with
      | none => rw [hd] at h1; cases h1
      | some m => rw [hd] at h1; have h2 : (u : Int) = (m : Int) := Option.some.inj h1; congr 1; omega
    have hat : Lib.atoiAll s.data.toList = .ok (u : Int) := by
      cases hl : s.data.toList with
      | nil => rw [hl] at hbs; rw [hu] at hbs; exact absurd hbs (numD_ne u)
      | cons c r =>
        have hc : 48 ≤ (c.toNat : Int) ∧ (c.toNat : Int) ≤ 57 := numD_dig u _ (by rw [← hu, hbs, hl]; simp)
        rw [Lib.atoiAll_plain c r (by omega) (by omega), ← hl, Lib.signless_short hlen]
        unfold Lib.decNat
        rw [if_neg (by rw [hl]; simp), hdec]
        rfl
    have hn := numD_len 6 u
    have hlt : (u : Int) < 10000000 := by
      have := (decL_le _ 0 _ (by omega) (decL_numD u)).2
      rw [← hu, bytesOf_length] at this
      have h3 : (10 : Int) ^ s.size ≤ 10 ^ 7 := by
        have := Nat.pow_le_pow_right (n := 10) (by decide) h7
        exact_mod_cast this
      have e7 : (10 : Int) ^ 7 = 10000000 := by decide
      omega
    rw [hat]
    (try simp only [])
    rw [if_neg (by omega), if_neg (by omega), if_neg (by omega), impl_NumText_eq _ (by omega), Option.bind_some, Int.toNat_natCast]
    rw [if_pos]
    rw [← hu, strOfNums_bytesOf]
  · rw [pnum_no s most (fun u h1 h2 h3 => hy ⟨u, h1, h2, h3⟩)]
    cases hat : Lib.atoiAll s.data.toList with
    | range => rfl
    | ok v =>
      have hb := Lib.atoiAll_bounds hat
      (try simp only [])
      by_cases h1 : v < 0
      · rw [if_pos h1]
      by_cases h2 : most < v
      · rw [if_neg h1, if_pos h2]
      by_cases h3 : 7 < s.size
      · rw [if_neg h1, if_neg h2, if_pos h3]
      rw [if_neg h1, if_neg h2, if_neg h3, impl_NumText_eq _ hb.2, Option.bind_some]
      rw [if_neg]
      intro e
      refine hy ⟨v.toNat, ?_, by omega, by omega⟩
      have : strOfNums (numD v.toNat) = s := (toList_iff _ _).1 e
      rw [← this, bytesOf_strOfNums _ (numD_range _)]
    | _ => rfl
def pnFin (s : ByteArray) (most n : Int) : Int × Bool := if 1 ≤ s.size ∧ s.size ≤ 7 ∧ ¬ (1 < s.size ∧ (bytesOf s).head? = some 48) ∧ n ≤ most then (n, true) else (0, false)
def pnRest (s : ByteArray) (most n : Int) (l : List Int) : Int × Bool := match decL n l with
  | none => (0, false)
  | some m => pnFin s most m
theorem pnFin_long (s : ByteArray) (most n : Int) (h : 7 < s.size) : pnFin s most n = (0, false) := by
  unfold pnFin; rw [if_neg (by omega)]
theorem pnRest_long (s : ByteArray) (most n : Int) (l : List Int) (h : 7 < s.size) : pnRest s most n l = (0, false) := by
  unfold pnRest
  cases decL n l with
  | none => rfl
  | some m => exact pnFin_long s most m h
theorem head_bt (s : ByteArray) (h : 0 < s.size) : (bytesOf s).head? = some (bt s 0) := by
  cases hb : bytesOf s with
  | nil => have := bytesOf_length s; rw [hb] at this; simp at this; omega
  | cons c r =>
    have := (bt_drop (s := s) (i := 0) (by rw [List.drop_zero]; exact hb)).1
    rw [show ((0 : Nat) : Int) = 0 from rfl] at this
    rw [this]; rfl
theorem spec_ParseNum_j1 (s : ByteArray) (most n i : Int) : Ev (fun k => spec_ParseNum.j1 k s most n i false) (pnFin s most n) := by
  apply ev_succ
  simp only [spec_ParseNum.j1, Bool.false_eq_true, if_false, l1In_eq, Option.bind_some]
  refine ev_iteB (fun q => ?_) (fun q => ?_)
  · simp only [Bool.and_eq_true, decide_eq_true_eq] at q
    refine ev_ite (fun q1 => ?_) (fun q1 => ?_)
    · rw [if_pos (show (0 : Int) < (s.size : Int) by omega)]
      have hb := head_bt s (by omega)
      by_cases q2 : bt s 0 = 48
      · rw [if_pos q2]
        have : pnFin s most n = (0, false) := by
          unfold pnFin
          rw [hb, q2, if_neg (fun h => h.2.2.1 ⟨by omega, rfl⟩)]
        rw [this]; exact Ev.now _
      · rw [if_neg q2]
        have hq : ¬ (1 < s.size ∧ (bytesOf s).head? = some 48) := fun h => q2 (by have := h.2; rw [hb] at this; exact Option.some.inj this)
        by_cases q3 : n > most
        · rw [if_pos q3]
          have : pnFin s most n = (0, false) := by unfold pnFin; rw [if_neg (by omega)]
          rw [this]; exact Ev.now _
        · rw [if_neg q3]
          have : pnFin s most n = (n, true) := by unfold pnFin; rw [if_pos ⟨by omega, by omega, hq, by omega⟩]
          rw [this]; exact Ev.now _
    · by_cases q3 : n > most
      · rw [if_pos q3]
        have : pnFin s most n = (0, false) := by unfold pnFin; rw [if_neg (by omega)]
        rw [this]; exact Ev.now _
      · rw [if_neg q3]
        have : pnFin s most n = (n, true) := by unfold pnFin; rw [if_pos ⟨by omega, by omega, fun h => by omega, by omega⟩]
        rw [this]; exact Ev.now _
  · have : pnFin s most n = (0, false) := by
      unfold pnFin
      rw [if_neg]
      rintro ⟨h1, h2, _⟩
      rw [decide_eq_true (by omega), decide_eq_true (by omega)] at q
      cases q
    rw [this]; exact Ev.now _
theorem spec_ParseNum_ev (s : ByteArray) (most : Int) (hs : s.size ≤ 140737488351232) : Ev (fun k => spec_ParseNum.f k s most) (pnum s most) := by
  have := str_loop_st s (fun i n k => spec_ParseNum.l0 k s most n (i : Int)) (fun i n r => pnRest s most n r) (fun i n r => i ≤ 8 ∧ 0 ≤ n ∧ n < 10 ^ i ∧ i + r.length = s.size) ?_ ?_ hs 0 0 ⟨by omega, by omega, by simp, by simp [bytesOf_length]⟩
  · exact this
  · intro i n ⟨h8, h0, hn, hl⟩ hi
    apply ev_succ
    simp only [spec_ParseNum.l0, if_neg (show ¬ (i : Int) < s.size by omega)]
    exact spec_ParseNum_j1 s most n i
  · intro i n c r ⟨h8, h0, hn, hl⟩ h hb hi hw hw1 ih
    have hc := bytesOf_range s c (List.mem_of_mem_drop (by rw [h]; simp : c ∈ (bytesOf s).drop i))
    apply ev_succ
    simp only [spec_ParseNum.l0, if_pos (show (i : Int) < s.size by omega)]
    rcases Nat.lt_or_ge i 8 with q8 | q8
    · rw [decide_eq_true (by omega)]
      apply ev_succ
      simp only [spec_ParseNum.j1, if_true, if_pos (show (0 : Int) ≤ (i : Int) by omega), if_pos (show (i : Int) < s.size by omega), hb, l1Digit_eq c hw, Option.bind_some, hw1]
      have hp : (10 : Int) ^ i ≤ 10 ^ 7 := by
        have := Nat.pow_le_pow_right (n := 10) (by decide) (show i ≤ 7 by omega)
        exact_mod_cast this
      have e7 : (10 : Int) ^ 7 = 10000000 := by decide
      by_cases qd : 48 ≤ c ∧ c ≤ 57
      · have hd : digitC c = true := by simp only [digitC, Bool.and_eq_true, decide_eq_true_eq]; exact qd
        simp only [hd, if_true]
        rw [wrap_id (x := n * 10) (by omega) (by omega), show (c - 48) % 256 = c - 48 by omega, wrap_id (x := n * 10 + (c - 48)) (by omega) (by omega)]
        have := ih (n * 10 + (c - 48)) ⟨by omega, by omega, by rw [Int.pow_succ]; omega, by simp at hl ⊢; omega⟩
        have e : pnRest s most n (c :: r) = pnRest s most (n * 10 + (c - 48)) r := by
          unfold pnRest; simp only [decL, if_pos qd]
        rw [e]; exact this
      · have hd : digitC c = false := by rw [← Bool.not_eq_true]; simp only [digitC, Bool.and_eq_true, decide_eq_true_eq]; exact qd
        simp only [hd, Bool.false_eq_true, if_false]
        have e : pnRest s most n (c :: r) = (0, false) := by
          unfold pnRest; simp only [decL, if_neg qd]
        rw [e]; exact Ev.now _
    · rw [decide_eq_false (by omega), pnRest_long s most n (c :: r) (by simp at hl; omega)]
      have := spec_ParseNum_j1 s most n i
      rw [pnFin_long s most n (by simp at hl; omega)] at this
      exact this

theorem pnum_bound (s : ByteArray) (most : Int) (h : (pnum s most).2 = true) : 0 ≤ (pnum s most).1 ∧ (pnum s most).1 ≤ most ∧ ∀ c ∈ bytesOf s, 48 ≤ c ∧ c ≤ 57 := by
  unfold pnum at *
  cases hd : decL 0 (bytesOf s) with
  | none => rw [hd] at h; cases h
  | some n =>
    rw [hd] at h
    simp only [] at h ⊢
    split at h
    · rename_i hq
      rw [if_pos hq]
      refine ⟨(decL_le _ 0 n (by omega) hd).1, hq.2.2.2, ?_⟩
      have key : ∀ (l : List Int) (a m : Int), decL a l = some m → ∀ c ∈ l, 48 ≤ c ∧ c ≤ 57 := by
        intro l
        induction l with
        | nil => intro a m _ c hc; cases hc
        | cons d r ih =>
          intro a m hm c hc
          simp only [decL] at hm
          split at hm
          · rename_i hd
            rcases List.mem_cons.1 hc with rfl | hc
            · exact hd
            · exact ih _ m hm c hc
          · cases hm
      exact key _ 0 n hd
    · cases h

theorem mem_linesC : ∀ (l : List Int) (cur : List Int), (∀ x ∈ l, 0 ≤ x ∧ x < 256) → (∀ x ∈ cur, 0 ≤ x ∧ x < 256) → ∀ a ∈ splC cur l, (∀ x ∈ a, 0 ≤ x ∧ x < 256) ∧ a.length ≤ cur.length + l.length
  | [], cur, _, hc, a, ha => by
    rw [splC, List.mem_singleton] at ha
    subst ha; exact ⟨hc, by simp⟩
  | [c], cur, hl, hc, a, ha => by
    rw [splC, List.mem_singleton] at ha
    subst ha
    refine ⟨fun x hx => ?_, by simp⟩
    rcases List.mem_append.1 hx with h | h
    · exact hc x h
    · exact hl x h
  | c :: d :: r, cur, hl, hc, a, ha => by
    rw [splC] at ha
    split at ha
    · rcases List.mem_cons.1 ha with h | h
      · subst h; exact ⟨hc, by omega⟩
      · have := mem_linesC r [] (fun x hx => hl x (by simp [hx])) (by simp) a h
        refine ⟨this.1, ?_⟩
        have h2 := this.2
        simp only [List.length_nil, List.length_cons] at h2 ⊢
        omega
    · have := mem_linesC (d :: r) (cur ++ [c]) (fun x hx => hl x (List.mem_cons_of_mem _ hx)) (fun x hx => by
        rcases List.mem_append.1 hx with h | h
        · exact hc x h
        · rw [List.mem_singleton] at h; subst h; exact hl x (by simp)) a ha
      refine ⟨this.1, ?_⟩
      have h2 := this.2
      simp only [List.length_append, List.length_cons, List.length_nil] at h2 ⊢
      omega
theorem linesC_size {l : List Int} (hl : ∀ x ∈ l, 0 ≤ x ∧ x < 256) : ∀ s ∈ linesC l, s.size ≤ l.length := by
  intro s hs
  obtain ⟨a, ha, rfl⟩ := List.mem_map.1 hs
  have := (mem_linesC l [] hl (by simp) a ha).2
  rw [strOfNums_size]; simpa using this
theorem splC_len : ∀ (l cur : List Int), 1 ≤ (splC cur l).length ∧ (splC cur l).length ≤ l.length + 1
  | [], cur => by simp [splC]
  | [c], cur => by simp [splC]
  | c :: d :: r, cur => by
    rw [splC]
    split
    · have := splC_len r []
      simp only [List.length_cons]; omega
    · have := splC_len (d :: r) (cur ++ [c])
      simp only [List.length_cons] at this ⊢; omega
theorem linesC_len (l : List Int) : 1 ≤ (linesC l).length ∧ (linesC l).length ≤ l.length + 1 := by
  unfold linesC; rw [List.length_map]; exact splC_len l []
theorem fnd4_4 : ∀ (t : List Int) (i : Nat), 0 ≤ fnd4 i t → (i : Int) + 4 ≤ fnd4 i t ∧ fnd4 i t ≤ i + t.length
  | [], i, h => by simp [fnd4] at h
  | c :: r, i, h => by
    rw [fnd4] at h ⊢
    by_cases q : (c :: r).take 4 = [13, 10, 13, 10]
    · rw [if_pos q]
      have := congrArg List.length q
      simp at this
      simp only [List.length_cons]
      omega
    · rw [if_neg q] at h ⊢
      have := fnd4_4 r (i + 1) h
      simp only [List.length_cons]
      omega
theorem split_lines (l : List Int) (hl : l.length ≤ 4194304) (hr : ∀ x ∈ l, 0 ≤ x ∧ x < 256) : strings_Split.f (strOfNums l) (⟨#[13, 10]⟩ : ByteArray) = some (linesC l) := by
  unfold strings_Split.f
  rw [if_pos ⟨by rw [strOfNums_size]; omega, by decide⟩, splitB_linesC _ _ (Nat.le_refl _), bytesOf_strOfNums l hr]
theorem lit_iff (s : ByteArray) (l : List UInt8) : s.toList = l ↔ bytesOf s = l.map fun b => (b.toNat : Int) := by
  rw [Lib.toList_data]
  unfold bytesOf
  constructor
  · intro h; rw [h]
  · intro h; exact List.map_inj_right (fun x y hxy => UInt8.toNat_inj.mp (by omega)) |>.mp h
theorem indexByte_mem : ∀ (l : List UInt8) (c : UInt8), 0 ≤ Lib.indexByte l c ↔ c ∈ l
  | [], c => by simp [Lib.indexByte]
  | b :: l, c => by
    have ih := indexByte_mem l c
    have hg := Lib.indexByte_ge l c
    simp only [Lib.indexByte]
    by_cases h : b = c
    · subst h; simp
    · have h' : (b == c) = false := by simpa using h
      have h2 : ¬ c = b := fun e => h e.symm
      rw [h']
      simp only [Bool.false_eq_true, if_false, List.mem_cons, h2, false_or, ← ih]
      by_cases q : Lib.indexByte l c = -1
      · simp [q]
      · have : (Lib.indexByte l c == -1) = false := by simpa using q
        rw [this]; simp only [Bool.false_eq_true, if_false]; omega
theorem mem_bytes (s : ByteArray) (c : UInt8) : c ∈ s.data.toList ↔ (c.toNat : Int) ∈ bytesOf s := by
  unfold bytesOf
  rw [List.mem_map]
  constructor
  · intro h; exact ⟨c, h, rfl⟩
  · rintro ⟨d, hd, he⟩
    have : d = c := UInt8.toNat_inj.mp (by omega)
    rw [← this]; exact hd

/-- what stands ahead of a byte, and from it on -/
def tkC (c : Int) (r : List Int) : List Int := r.takeWhile fun x => decide (x ≠ c)
def drC (c : Int) (r : List Int) : List Int := r.dropWhile fun x => decide (x ≠ c)
theorem tk_dr (c : Int) (r : List Int) : tkC c r ++ drC c r = r := List.takeWhile_append_dropWhile
theorem tkC_no (c : Int) : ∀ r, c ∉ tkC c r
  | [] => by simp [tkC]
  | x :: r => by
    unfold tkC
    rw [List.takeWhile_cons]
    split
    · rename_i h
      have h2 := tkC_no c r
      unfold tkC at h2
      simp only [decide_eq_true_eq] at h
      simp only [List.mem_cons, not_or]
      exact ⟨fun e => h e.symm, h2⟩
    · simp
theorem drC_head {c : Int} {r : List Int} {a : Int} {u : List Int} (h : drC c r = a :: u) : a = c := by
  have := List.head_dropWhile_not (p := fun x : Int => decide (x ≠ c)) (l := r) (by unfold drC at h; rw [h]; simp)
  unfold drC at h
  simp only [h, List.head_cons] at this
  simpa using this
theorem drC_len (c : Int) (r : List Int) : (tkC c r).length + (drC c r).length = r.length := by rw [← List.length_append, tk_dr]
theorem index_one (c : UInt8) : ∀ l : List UInt8, Lib.index l [c] = if (l.dropWhile fun x => decide (x ≠ c)) = [] then -1 else ((l.takeWhile fun x => decide (x ≠ c)).length : Int)
  | [] => rfl
  | b :: l => by
    have ih := index_one c l
    rw [Lib.index]
    simp only [List.isPrefixOf, Bool.and_true]
    by_cases q : b = c
    · subst q
      simp
    · have q1 : ¬ c = b := fun e => q e.symm
      have q2 : (c == b) = false := by simpa using q1
      rw [q2, if_neg (by simp), ih, List.dropWhile_cons, List.takeWhile_cons]
      simp only [ne_eq, q, not_false_iff, decide_true, if_true]
      by_cases q3 : (l.dropWhile fun x => decide (¬ x = c)) = []
      · simp only [ne_eq, q3, if_true]; rfl
      · simp only [ne_eq, if_neg q3]
        rw [if_neg (by simp only [beq_iff_eq]; omega)]
        simp
theorem cut_u8 (c : UInt8) (l : List UInt8) : Lib.cut l [c] = (l.takeWhile (fun x => decide (x ≠ c)), (l.dropWhile fun x => decide (x ≠ c)).tail, decide ((l.dropWhile fun x => decide (x ≠ c)) ≠ [])) := by
  have ha := List.takeWhile_append_dropWhile (p := fun x => decide (x ≠ c)) (l := l)
  unfold Lib.cut
  rw [index_one]
  generalize (l.takeWhile fun x => decide (x ≠ c)) = t at ha
  generalize (l.dropWhile fun x => decide (x ≠ c)) = d at ha
  by_cases q : d = []
  · subst q
    rw [List.append_nil] at ha
    rw [if_pos rfl, if_neg (by decide), ha]
    rfl
  · rw [if_neg q, if_pos (by omega)]
    subst ha
    simp only [Int.toNat_natCast, List.length_cons, List.length_nil, List.take_left, Nat.zero_add, decide_eq_true q, ne_eq, not_false_iff]
    cases d with
    | nil => exact absurd rfl q
    | cons x u =>
      refine Prod.ext rfl (Prod.ext ?_ rfl)
      show List.drop (t.length + 1) (t ++ x :: u) = u
      rw [show t ++ x :: u = (t ++ [x]) ++ u by simp]
      exact List.drop_left' (by simp)
theorem map_tk (c : UInt8) (l : List UInt8) : (l.takeWhile fun x => decide (x ≠ c)).map (fun b => (b.toNat : Int)) = tkC (c.toNat : Int) (l.map fun b => (b.toNat : Int)) := by
  unfold tkC
  rw [List.takeWhile_map]
  congr 2
  funext x
  simp only [Function.comp, decide_eq_decide]
  constructor
  · intro h e; exact h (UInt8.toNat_inj.1 (by omega))
  · intro h e; exact h (by rw [e])
theorem map_dr (c : UInt8) (l : List UInt8) : (l.dropWhile fun x => decide (x ≠ c)).map (fun b => (b.toNat : Int)) = drC (c.toNat : Int) (l.map fun b => (b.toNat : Int)) := by
  unfold drC
  rw [List.dropWhile_map]
  congr 2
  funext x
  simp only [Function.comp, decide_eq_decide]
  constructor
  · intro h e; exact h (UInt8.toNat_inj.1 (by omega))
  · intro h e; exact h (by rw [e])
theorem cut_one (s : ByteArray) (c : UInt8) (h : s.size < 4294967281) : ∃ a b, strings_Cut.f s (⟨#[c]⟩ : ByteArray) = some (a, b, decide (drC (c.toNat : Int) (bytesOf s) ≠ [])) ∧ bytesOf a = tkC (c.toNat : Int) (bytesOf s) ∧ bytesOf b = (drC (c.toNat : Int) (bytesOf s)).tail := by
  have hb : bytesOf s = s.data.toList.map fun b => (b.toNat : Int) := rfl
  refine ⟨⟨(Lib.cut s.data.toList [c]).1.toArray⟩, ⟨(Lib.cut s.data.toList [c]).2.1.toArray⟩, ?_, ?_, ?_⟩
  · unfold strings_Cut.f
    rw [if_pos h, show ((⟨#[c]⟩ : ByteArray).data.toList) = [c] from rfl, cut_u8]
    rw [hb, ← map_dr]
    simp only [ne_eq, List.map_eq_nil_iff]
  · rw [bytesOf_mk, cut_u8, map_tk, hb]
  · rw [bytesOf_mk, cut_u8]
    show (List.dropWhile _ _).tail.map _ = _
    rw [List.map_tail, map_dr]
    rfl
/-- a text's parts between signs c; cur: the part that is open -/
def splG (c : Int) : List Int → List Int → List (List Int)
  | cur, [] => [cur]
  | cur, x :: r => if x = c then cur :: splG c [] r else splG c (cur ++ [x]) r
def partsG (c : Int) (l : List Int) : List ByteArray := (splG c [] l).map strOfNums
theorem splG_cut (c : Int) : ∀ (l cur : List Int), splG c cur l = if drC c l = [] then [cur ++ l] else (cur ++ tkC c l) :: splG c [] (drC c l).tail
  | [], cur => by simp [splG, drC]
  | x :: r, cur => by
    by_cases q : x = c
    · rw [splG, if_pos q]
      have e1 : drC c (x :: r) = x :: r := by simp [drC, q]
      have e2 : tkC c (x :: r) = [] := by simp [tkC, q]
      rw [e1, e2, if_neg (by simp)]; simp
    · have e1 : drC c (x :: r) = drC c r := by simp [drC, q]
      have e2 : tkC c (x :: r) = x :: tkC c r := by simp [tkC, q]
      rw [splG, if_neg q, splG_cut c r (cur ++ [x]), e1, e2]
      by_cases q1 : drC c r = []
      · rw [if_pos q1, if_pos q1]; simp
      · rw [if_neg q1, if_neg q1]; simp
theorem indexG (c : UInt8) (s : ByteArray) : Lib.indexB s ⟨#[c]⟩ = if drC (c.toNat : Int) (bytesOf s) = [] then -1 else ((tkC (c.toNat : Int) (bytesOf s)).length : Int) := by
  show Lib.index s.data.toList [c] = _
  rw [index_one]
  have hb : bytesOf s = s.data.toList.map fun b => (b.toNat : Int) := rfl
  rw [hb, ← map_dr, ← map_tk]
  simp only [List.map_eq_nil_iff, List.length_map]
theorem splitB_partsG (c : UInt8) : ∀ (n : Nat) (s : ByteArray), s.size ≤ n → Lib.splitB ⟨#[c]⟩ 0 (Lib.countB s ⟨#[c]⟩) s = partsG (c.toNat : Int) (bytesOf s) := by
  intro n
  induction n with
  | zero =>
    intro s h
    have h0 : bytesOf s = [] := List.eq_nil_of_length_eq_zero (by rw [bytesOf_length]; omega)
    have hi : Lib.indexB s ⟨#[c]⟩ = -1 := by rw [indexG, h0]; rfl
    rw [Lib.splitB_miss _ _ _ _ hi]
    unfold partsG
    rw [h0]
    have : s = strOfNums [] := by rw [← h0, strOfNums_bytesOf]
    rw [this]; rfl
  | succ n ih =>
    intro s h
    have hi := indexG c s
    unfold partsG
    rw [splG_cut]
    by_cases q : drC (c.toNat : Int) (bytesOf s) = []
    · rw [if_pos q] at hi
      rw [Lib.splitB_miss _ _ _ _ hi, if_pos q]
      simp [strOfNums_bytesOf]
    · rw [if_neg q] at hi
      have h1 : 1 ≤ (⟨#[c]⟩ : ByteArray).size := Nat.le_refl 1
      rw [if_neg q, Lib.countB_hit s ⟨#[c]⟩ _ h1 hi, Nat.add_comm, Lib.splitB_hit _ _ _ _ _ hi]
      have hl := drC_len (c.toNat : Int) (bytesOf s)
      rw [bytesOf_length] at hl
      have hd : 0 < (drC (c.toNat : Int) (bytesOf s)).length := List.length_pos_iff.2 q
      have e1 : bytesOf (s.extract ((tkC (c.toNat : Int) (bytesOf s)).length + (⟨#[c]⟩ : ByteArray).size) s.size) = (drC (c.toNat : Int) (bytesOf s)).tail := by
        rw [bytesOf_extract, List.take_of_length_le (by rw [bytesOf_length]; exact Nat.le_refl _)]
        have h2 := @List.drop_left _ (tkC (c.toNat : Int) (bytesOf s)) (drC (c.toNat : Int) (bytesOf s))
        rw [tk_dr] at h2
        show (bytesOf s).drop ((tkC (c.toNat : Int) (bytesOf s)).length + 1) = _
        rw [← List.drop_drop, h2, List.drop_one]
      have e2 : s.extract 0 ((tkC (c.toNat : Int) (bytesOf s)).length + 0) = strOfNums (tkC (c.toNat : Int) (bytesOf s)) := by
        apply bytesOf_inj
        have h2 := @List.take_left _ (tkC (c.toNat : Int) (bytesOf s)) (drC (c.toNat : Int) (bytesOf s))
        rw [tk_dr] at h2
        rw [bytesOf_extract, Nat.add_zero, h2, List.drop_zero, bytesOf_strOfNums]
        intro x hx
        exact bytesOf_range s x (by rw [← tk_dr (c.toNat : Int) (bytesOf s)]; exact List.mem_append_left _ hx)
      have hsz : (s.extract ((tkC (c.toNat : Int) (bytesOf s)).length + (⟨#[c]⟩ : ByteArray).size) s.size).size ≤ n := by
        rw [size_len, e1, List.length_tail]; omega
      rw [ih _ hsz, e1, e2]
      simp [partsG]
theorem take_snocG {l : List Int} {i st : Nat} {c : Int} {r : List Int} (h : l.drop i = c :: r) (hs : st ≤ i) : (l.take (i + 1)).drop st = (l.take i).drop st ++ [c] := by
  obtain ⟨_, h2, _, h4⟩ := l_drop h
  rw [List.take_add_one, h4, Option.toList_some, List.drop_append_of_le_length (by rw [List.length_take]; omega)]
theorem spec_l2Split_evG (z : Int) (s : ByteArray) (hs : s.size ≤ 4194304) : Ev (fun k => spec_l2Split.f k s z) (partsG z (bytesOf s)) := by
  have key := str_loop_st s (fun i (x : List ByteArray × Nat) k => spec_l2Split.l0 k s z x.1 (x.2 : Int) (i : Int)) (fun i x r => x.1 ++ (splG z (((bytesOf s).take i).drop x.2) r).map strOfNums) (fun i x r => x.2 ≤ i ∧ x.1.length ≤ i ∧ i + r.length = s.size) ?_ ?_ (by omega) 0 ([], 0) ⟨Nat.le_refl _, by simp, by simp [bytesOf_length]⟩
  · unfold spec_l2Split.f partsG
    simpa using key
  · rintro i ⟨acc, st⟩ ⟨h1, h2, h3⟩ hi
    have hi' : i = s.size := by simpa using h3
    have hw : wrap64 ((i : Int) + 1) = ((i + 1 : Nat) : Int) := by rw [wrap_id (by omega) (by omega)]; rfl
    have a1 : (i : Int) ≤ (s.size : Int) := by omega
    have a2 : (i : Int) = (s.size : Int) := by omega
    have a3 : (0 : Int) ≤ (st : Int) := by omega
    have a4 : (st : Int) ≤ (i : Int) := by simp at h1; omega
    have a5 : acc.length < 8796093022208 := by simp at h2; omega
    have a6 : ¬ ((i + 1 : Nat) : Int) ≤ (s.size : Int) := by omega
    apply ev_succ
    simp only [spec_l2Split.l0, if_pos a1, if_pos a2, if_pos a3, if_pos a4, if_pos a5, hw, Int.toNat_natCast]
    apply ev_succ
    simp only [spec_l2Split.l0, if_neg a6]
    have e : s.extract st i = strOfNums (((bytesOf s).take i).drop st) := by rw [← bytesOf_extract, strOfNums_bytesOf]
    rw [e]
    exact Ev.now _
  · rintro i ⟨acc, st⟩ c r ⟨h1, h2, h3⟩ h hb hi hw hw1 ih
    have a1 : (i : Int) ≤ (s.size : Int) := by omega
    have a2 : ¬ (i : Int) = (s.size : Int) := by omega
    have a3 : (0 : Int) ≤ (st : Int) := by omega
    have a4 : (st : Int) ≤ (i : Int) := by simp at h1; omega
    have a5 : acc.length < 8796093022208 := by simp at h2; omega
    have a6 : (i : Int) < (s.size : Int) := by omega
    have a7 : (0 : Int) ≤ (i : Int) := by omega
    have a8 : i + 1 + r.length = s.size := by simp at h3; omega
    have a9 : st ≤ i := h1
    have a10 : acc.length ≤ i := h2
    apply ev_succ
    simp only [spec_l2Split.l0, if_pos a1, if_neg a2, if_pos a6, if_pos a7, hb, hw1]
    refine ev_ite (fun q => ?_) (fun q => ?_)
    · simp only [if_pos a3, if_pos a4, if_pos a5, Int.toNat_natCast]
      have := ih (acc ++ [s.extract st i], i + 1) ⟨Nat.le_refl _, by simp; exact a10, a8⟩
      have e : s.extract st i = strOfNums (((bytesOf s).take i).drop st) := by rw [← bytesOf_extract, strOfNums_bytesOf]
      have e2 : ((bytesOf s).take (i + 1)).drop (i + 1) = [] := List.drop_eq_nil_of_le (by rw [List.length_take]; exact Nat.min_le_left _ _)
      simp only [e2, e] at this
      rw [e]
      simp only [splG, if_pos q, List.map_cons]
      simpa using this
    · have := ih (acc, st) ⟨Nat.le_succ_of_le a9, Nat.le_succ_of_le a10, a8⟩
      simp only [take_snocG h a9] at this
      simp only [splG, if_neg q]
      exact this

theorem isLarge_eq (c : Int) : impl_isLarge.f c = some (largeC c) := by
  unfold impl_isLarge.f largeC; split <;> simp [*] <;> omega

/-- a text in small letters, byte by byte -/
def lowC (c : Int) : Int := if largeC c = true then c + 32 else c
def lowL (l : List Int) : List Int := l.map lowC
theorem lowC_range {c : Int} (h : 0 ≤ c ∧ c < 256) : 0 ≤ lowC c ∧ lowC c < 256 := by
  unfold lowC largeC
  split
  · rename_i q
    simp at q
    omega
  · exact h
theorem lowC_mod {c : Int} (h : 0 ≤ c ∧ c < 256) (q : largeC c = true) : (c + 32) % 256 = lowC c := by
  have := lowC_range h
  unfold lowC at this ⊢
  rw [if_pos q] at this ⊢
  omega
def lower (s : ByteArray) : ByteArray := strOfNums (lowL (bytesOf s))
theorem impl_Lower_l0 (l : List Int) (hl : l.length ≤ 4194304) (hr : ∀ x ∈ l, 0 ≤ x ∧ x < 256) : ∀ n i, l.length - i = n → i ≤ l.length → Ev (fun k => impl_Lower.l0 k ((lowL l).take i ++ l.drop i) (l.length : Int) (i : Int)) (strOfNums (lowL l)) := by
  intro n
  induction n with
  | zero =>
    intro i hn hi
    have h0 : i = l.length := by omega
    subst h0
    apply ev_succ; simp only [impl_Lower.l0, if_neg (show ¬ ((l.length : Nat) : Int) < (l.length : Int) by omega)]
    simpa [lowL, List.take_of_length_le] using Ev.now _
  | succ n ih =>
    intro i hn hi
    have hlt : i < l.length := by omega
    have hll : (lowL l).length = l.length := by simp [lowL]
    have htl : ((lowL l).take i).length = i := by rw [List.length_take]; omega
    have hlen : ((lowL l).take i ++ l.drop i).length = l.length := by rw [List.length_append, htl, List.length_drop]; omega
    have hw1 : wrap64 ((i : Int) + 1) = ((i + 1 : Nat) : Int) := by rw [wrap_id (by omega) (by omega)]; rfl
    have hrd : rd ((lowL l).take i ++ l.drop i) (i : Int) = l[i] := by
      rw [rd, Int.toNat_natCast, List.getD_eq_getElem?_getD, List.getElem?_append_right (by omega), htl, List.getElem?_drop]
      simp [hlt]
    have hc := hr l[i] (List.getElem_mem _)
    have step : (lowL l).take (i + 1) ++ l.drop (i + 1) = (lowL l).take i ++ lowC l[i] :: l.drop (i + 1) := by
      rw [List.take_succ_eq_append_getElem (by omega)]
      simp [lowL]
    have hd : l.drop i = l[i] :: l.drop (i + 1) := List.drop_eq_getElem_cons hlt
    have ih' := ih (i + 1) (by omega) (by omega)
    rw [step] at ih'
    apply ev_succ
    simp only [impl_Lower.l0, if_pos (show (i : Int) < (l.length : Int) by omega), if_pos (show (0 : Int) ≤ i by omega), hlen, hrd, isLarge_eq, Option.bind_some, hw1]
    refine ev_ite (fun q => ?_) (fun q => ?_)
    · rw [Int.toNat_natCast, lowC_mod hc q, List.set_append_right _ _ (by omega), htl, Nat.sub_self, hd, List.set_cons_zero]
      exact ih'
    · rw [show lowC l[i] = l[i] by unfold lowC; rw [if_neg q], ← hd] at ih'
      exact ih'
theorem impl_Lower_ev (s : ByteArray) (hs : s.size ≤ 4194304) : Ev (fun k => impl_Lower.f k s) (lower s) := by
  unfold impl_Lower.f
  simp only [if_pos (show s.size < 140737488355328 by omega), Option.bind_some]
  have := impl_Lower_l0 (bytesOf s) (by rw [bytesOf_length]; exact hs) (bytesOf_range s) _ 0 rfl (Nat.zero_le _)
  simpa [lower] using this

def blankC (c : Int) : Bool := decide (c = 32) || decide (c = 9)
def trimL (l : List Int) : List Int := l.dropWhile blankC
def trimR (l : List Int) : List Int := (l.reverse.dropWhile blankC).reverse
theorem trimR_cons (c : Int) (r : List Int) : trimR (c :: r) = if trimR r = [] then (if blankC c = true then [] else [c]) else c :: trimR r := by
  unfold trimR
  rw [List.reverse_cons, List.dropWhile_append]
  by_cases h : r.reverse.dropWhile blankC = []
  · rw [h]
    by_cases q : blankC c = true
    · simp [q]
    · simp [q]
  · have : (r.reverse.dropWhile blankC).isEmpty = false := by simpa using h
    rw [this]
    simp [h]
theorem trim_comm : ∀ l : List Int, trimL (trimR l) = trimR (trimL l)
  | [] => rfl
  | c :: r => by
    have ih := trim_comm r
    rw [trimR_cons]
    by_cases q : blankC c = true
    · have e : trimL (c :: r) = trimL r := by unfold trimL; rw [List.dropWhile_cons_of_pos q]
      rw [e, ← ih]
      by_cases h : trimR r = []
      · rw [if_pos h, if_pos q, h]
      · rw [if_neg h]
        unfold trimL; rw [List.dropWhile_cons_of_pos q]
    · have e : ∀ x : List Int, trimL (c :: x) = c :: x := fun x => by unfold trimL; rw [List.dropWhile_cons_of_neg q]
      rw [e, trimR_cons]
      by_cases h : trimR r = []
      · rw [if_pos h, if_neg q]; exact e []
      · rw [if_neg h]; exact e _
def trim (s : ByteArray) : ByteArray := strOfNums (trimL (trimR (bytesOf s)))
theorem mem_trim {l : List Int} {x : Int} (h : x ∈ trimL (trimR l)) : x ∈ l := by
  unfold trimL trimR at h
  have h1 := (List.dropWhile_sublist _).subset h
  have h2 := (List.dropWhile_sublist _).subset (List.mem_reverse.1 h1)
  exact List.mem_reverse.1 h2
theorem trim_bytes (s : ByteArray) : bytesOf (trim s) = trimL (trimR (bytesOf s)) := bytesOf_strOfNums _ (fun x hx => bytesOf_range s x (mem_trim hx))
theorem trim_size (s : ByteArray) : (trim s).size ≤ s.size := by
  rw [size_len, trim_bytes, size_len]
  unfold trimL trimR
  have h1 := (List.dropWhile_sublist blankC (l := ((bytesOf s).reverse.dropWhile blankC).reverse)).length_le
  have h2 := (List.dropWhile_sublist blankC (l := (bytesOf s).reverse)).length_le
  simp only [List.length_reverse] at h1 h2
  omega
theorem dropWhile_map_ {α β : Type} (f : α → β) (p : β → Bool) : ∀ l : List α, (l.map f).dropWhile p = (l.dropWhile (fun x => p (f x))).map f
  | [] => rfl
  | x :: r => by
    rw [List.map_cons]
    by_cases q : p (f x) = true
    · rw [List.dropWhile_cons_of_pos q, List.dropWhile_cons_of_pos (by exact q), dropWhile_map_ f p r]
    · rw [List.dropWhile_cons_of_neg q, List.dropWhile_cons_of_neg (by exact q), List.map_cons]
theorem blank_u8 (b : UInt8) : ([32, 9] : List UInt8).contains b = blankC (b.toNat : Int) := by
  have H : ∀ n : Fin 256, ([32, 9] : List UInt8).contains (UInt8.ofNat n.val) = blankC (n.val : Int) := by decide +kernel
  have := H ⟨b.toNat, b.toNat_lt⟩
  simpa using this
theorem impl_Trim_eq (s : ByteArray) (hs : s.size ≤ 140737488351232) : impl_Trim.f s = some (trim s) := by
  unfold impl_Trim.f strings_Trim.f
  rw [if_pos ⟨by omega, by decide, by decide⟩]
  simp only [Option.bind_some]
  congr 1
  apply bytesOf_inj
  rw [trim_bytes, bytesOf_mk]
  unfold Lib.trimS Lib.trimLeftS Lib.trimRightS trimL trimR bytesOf
  have e : (fun x : UInt8 => ([32, 9] : List UInt8).contains x) = fun x => blankC (x.toNat : Int) := funext blank_u8
  show List.map _ (List.dropWhile (fun x => ([32, 9] : List UInt8).contains x) (List.dropWhile (fun x => ([32, 9] : List UInt8).contains x) s.data.toList.reverse).reverse) = _
  rw [e, ← List.map_reverse, dropWhile_map_, ← List.map_reverse, dropWhile_map_]
theorem l1Blank_eq (c : Int) : spec_l1Blank.f c = some (blankC c) := by
  unfold spec_l1Blank.f blankC
  by_cases h : c = 32
  · rw [if_pos h]; simp [h]
  · rw [if_neg h]; simp [h]; rfl
theorem bytesOf_one {x : ByteArray} {c : Int} {r : List Int} (h : bytesOf x = c :: r) : bt x 0 = c ∧ bytesOf (x.extract 1 x.size) = r ∧ x.size = r.length + 1 := by
  have hd : (bytesOf x).drop 0 = c :: r := by simpa using h
  obtain ⟨h1, h2, h3⟩ := bt_drop hd
  refine ⟨by simpa using h1, ?_, by rw [size_len, h]; rfl⟩
  rw [bytesOf_extract, List.take_of_length_le (by rw [← size_len]; exact Nat.le_refl _)]
  exact h3
theorem bytesOf_last {x : ByteArray} {c : Int} {r : List Int} (h : bytesOf x = r ++ [c]) : bt x (r.length : Int) = c ∧ bytesOf (x.extract 0 r.length) = r ∧ x.size = r.length + 1 := by
  have hd : (bytesOf x).drop r.length = [c] := by rw [h]; simp
  obtain ⟨h1, h2, h3⟩ := bt_drop hd
  refine ⟨h1, ?_, by rw [size_len, h]; simp⟩
  rw [bytesOf_extract, h]
  simp
theorem spec_Trim_l1 : ∀ (l : List Int) (x : ByteArray), bytesOf x = l.reverse → x.size ≤ 4194304 → Ev (fun k => spec_Trim.l1 k x) (strOfNums (trimR (bytesOf x)))
  | [], x, h, hs => by
    have h0 : x.size = 0 := by rw [size_len, h]; rfl
    apply ev_succ; simp only [spec_Trim.l1, if_neg (show ¬ (x.size : Int) > 0 by omega)]
    rw [h]
    have : x = strOfNums (trimR ([] : List Int).reverse) := by rw [← strOfNums_bytesOf x, h]; rfl
    rw [← this]; exact Ev.now _
  | c :: r, x, h, hs => by
    rw [List.reverse_cons] at h
    obtain ⟨h1, h2, h3⟩ := bytesOf_last h
    rw [List.length_reverse] at h1 h2 h3
    apply ev_succ
    simp only [spec_Trim.l1, if_pos (show (x.size : Int) > 0 by omega), show wrap64 ((x.size : Int) - 1) = (r.length : Int) from by rw [wrap_id (by omega) (by omega)]; omega, if_pos (show (0 : Int) ≤ (r.length : Int) by omega), if_pos (show (r.length : Int) < (x.size : Int) by omega), if_pos (show (r.length : Int) ≤ (x.size : Int) by omega), h1, l1Blank_eq, Option.bind_some, Int.toNat_natCast]
    refine ev_iteB (fun q => ?_) (fun q => ?_)
    · have ih := spec_Trim_l1 r (x.extract 0 r.length) h2 (by rw [size_len, h2, List.length_reverse]; omega)
      have e : trimR (bytesOf x) = trimR (bytesOf (x.extract 0 r.length)) := by
        rw [h, h2]
        unfold trimR
        rw [List.reverse_append, List.reverse_reverse]
        show (List.dropWhile blankC (c :: r)).reverse = _
        rw [List.dropWhile_cons_of_pos q]
      rw [e]; exact ih
    · have e : trimR (bytesOf x) = bytesOf x := by
        rw [h]
        unfold trimR
        rw [List.reverse_append, List.reverse_reverse]
        show (List.dropWhile blankC (c :: r)).reverse = _
        rw [List.dropWhile_cons_of_neg (by rw [q]; simp), List.reverse_cons]
      rw [e, strOfNums_bytesOf]; exact Ev.now _
theorem spec_Trim_l0 : ∀ (l : List Int) (x : ByteArray), bytesOf x = l → x.size ≤ 4194304 → Ev (fun k => spec_Trim.l0 k x) (strOfNums (trimR (trimL (bytesOf x))))
  | [], x, h, hs => by
    have h0 : x.size = 0 := by rw [size_len, h]; rfl
    apply ev_succ; simp only [spec_Trim.l0, if_neg (show ¬ (x.size : Int) > 0 by omega)]
    apply ev_succ; simp only [spec_Trim.j1]
    have := spec_Trim_l1 [] x h hs
    rwa [show trimL (bytesOf x) = bytesOf x by rw [h]; rfl]
  | c :: r, x, h, hs => by
    obtain ⟨h1, h2, h3⟩ := bytesOf_one h
    apply ev_succ
    simp only [spec_Trim.l0, if_pos (show (x.size : Int) > 0 by omega), if_pos (show (0 : Int) < (x.size : Int) by omega), if_pos (show (1 : Int) ≤ (x.size : Int) by omega), h1, l1Blank_eq, Option.bind_some]
    refine ev_iteB (fun q => ?_) (fun q => ?_)
    · have ih := spec_Trim_l0 r (x.extract 1 x.size) h2 (by rw [size_len, h2]; omega)
      have e : trimL (bytesOf x) = trimL (bytesOf (x.extract 1 x.size)) := by
        rw [h, h2]
        unfold trimL
        rw [List.dropWhile_cons_of_pos q]
      rw [e]; exact ih
    · have e : trimL (bytesOf x) = bytesOf x := by
        rw [h]
        unfold trimL
        rw [List.dropWhile_cons_of_neg (by rw [q]; simp)]
      rw [e]
      apply ev_succ; simp only [spec_Trim.j1]
      exact spec_Trim_l1 (bytesOf x).reverse x (by rw [List.reverse_reverse]) hs
theorem spec_Trim_ev (s : ByteArray) (hs : s.size ≤ 4194304) : Ev (fun k => spec_Trim.f k s) (trim s) := by
  unfold spec_Trim.f trim
  rw [trim_comm]
  exact spec_Trim_l0 _ s rfl hs

def lenB (s : ByteArray) (a b : Int) : Bool := decide (a ≤ (s.size : Int)) && decide ((s.size : Int) ≤ b)

theorem isSmall_eq (c : Int) : impl_isSmall.f c = some (smallC c) := by
  unfold impl_isSmall.f smallC; split <;> simp [*] <;> omega

theorem l1Small_eq (c : Int) (h : wrap64 c = c) : spec_l1Small.f c = some (smallC c) := by
  unfold spec_l1Small.f; rw [h, l1In_eq]; rfl

/-- a small name -/
def snC (first : Bool) (c : Int) : Bool := smallC c || (!first && (digitC c || decide (c = 45)))
def snB : Nat → List Int → Bool
  | _, [] => true
  | i, c :: r => snC (i == 0) c && snB (i + 1) r
def smallName (s : ByteArray) : Bool := snB 0 (bytesOf s) && lenB s 1 20
theorem impl_SmallName_ev (s : ByteArray) (hs : s.size ≤ 140737488351232) : Ev (fun k => impl_SmallName.f k s) (smallName s) := by
  refine str_loop_st s (fun i (_ : Unit) k => impl_SmallName.l0 k s (i : Int)) (fun i _ r => snB i r && lenB s 1 20) (fun _ _ _ => True) ?_ ?_ hs 0 () trivial
  · intro i _ _ hi
    apply ev_succ; simp only [impl_SmallName.l0, if_neg (show ¬ (i : Int) < s.size by omega), in_eq, Option.bind_some]; exact Ev.now _
  · intro i _ c r _ h hb hi hw hw1 ih
    replace ih := ih () trivial
    apply ev_succ
    simp only [impl_SmallName.l0, if_pos (show (i : Int) < s.size by omega), if_pos (show (0 : Int) ≤ i by omega), hb, isSmall_eq, isDigit_eq, Option.bind_some, hw1]
    refine ev_iteB (fun q => ?_) (fun q => ev_ite (fun q0 => ?_) (fun q0 => ?_))
    · simpa [snB, snC, q] using ih
    · have : i = 0 := by omega
      subst this; simpa [snB, snC, q] using Ev.now false
    · have hi0 : (i == 0) = false := by simp; omega
      refine ev_iteB (fun q1 => ?_) (fun q1 => ev_ite (fun q2 => ?_) (fun q2 => ?_))
      · simpa [snB, snC, q, hi0, q1] using ih
      · subst q2; simpa [snB, snC, q, hi0, q1] using ih
      · simpa [snB, snC, q, hi0, q1, q2] using Ev.now false
theorem spec_SmallName_ev (s : ByteArray) (hs : s.size ≤ 140737488351232) : Ev (fun k => spec_SmallName.f k s) (smallName s) := by
  refine str_loop_st s (fun i (_ : Unit) k => spec_SmallName.l0 k s (i : Int)) (fun i _ r => snB i r && lenB s 1 20) (fun _ _ _ => True) ?_ ?_ hs 0 () trivial
  · intro i _ _ hi
    apply ev_succ; simp only [spec_SmallName.l0, if_neg (show ¬ (i : Int) < s.size by omega), l1In_eq, Option.bind_some]; exact Ev.now _
  · intro i _ c r _ h hb hi hw hw1 ih
    replace ih := ih () trivial
    apply ev_succ
    simp only [spec_SmallName.l0, if_pos (show (i : Int) < s.size by omega), if_pos (show (0 : Int) ≤ i by omega), hb, l1Small_eq c hw, l1Digit_eq c hw, Option.bind_some, hw1]
    refine ev_iteB (fun q => ?_) (fun q => ev_ite (fun q0 => ?_) (fun q0 => ?_))
    · simpa [snB, snC, q] using ih
    · have : i = 0 := by omega
      subst this; simpa [snB, snC, q] using Ev.now false
    · have hi0 : (i == 0) = false := by simp; omega
      refine ev_iteB (fun q1 => ?_) (fun q1 => ev_ite (fun q2 => ?_) (fun q2 => ?_))
      · simpa [snB, snC, q, hi0, q1] using ih
      · subst q2; simpa [snB, snC, q, hi0, q1] using ih
      · simpa [snB, snC, q, hi0, q1, q2] using Ev.now false

theorem head_eq (x y : S113) : x = y ↔ x.f0 = y.f0 ∧ x.f1 = y.f1 := by cases x; cases y; simp
theorem eqHeadS_ev (a b : List S113) (ha : a.length ≤ 9223372036854775806) : Ev (fun k => laws_eqHeadS.f k a b) (eqb a b) := by
  unfold laws_eqHeadS.f
  refine ev_ite (fun q => ?_) (fun q => ?_)
  · have q' : a.length = b.length := by omega
    refine eq_loop a b (· = ·) q' ha (fun i k => laws_eqHeadS.l0 k a b (i : Int)) _ ((eqb_iff a b).trans (list_eq_iff a b q')) ?_ ?_
    · intro i hi
      apply ev_succ; simp only [laws_eqHeadS.l0, if_neg (show ¬ (i : Int) < a.length by omega)]; exact Ev.now _
    · intro i x y v hi hx hy hw1 ih
      have hxx : rd_T113 a (i : Int) = x := hx _
      have hyy : rd_T113 b (i : Int) = y := hy _
      refine ⟨fun hR => ?_, fun hR => ?_⟩
      · apply ev_succ
        subst hR
        simp only [laws_eqHeadS.l0, if_pos (show (i : Int) < a.length by omega), if_pos (show (0 : Int) ≤ i by omega), if_pos (show (i : Int) < b.length by omega), hxx, hyy, hw1, laws_eqHead.f, if_true, Option.bind_some]; exact ih
      · apply ev_succ
        simp only [laws_eqHeadS.l0, if_pos (show (i : Int) < a.length by omega), if_pos (show (0 : Int) ≤ i by omega), if_pos (show (i : Int) < b.length by omega), hxx, hyy, hw1, laws_eqHead.f, toList_iff]
        by_cases e0 : x.f0 = y.f0
        · by_cases e1 : x.f1 = y.f1
          · exact absurd ((head_eq x y).mpr ⟨e0, e1⟩) hR
          · simp only [if_pos e0, if_neg e1, Option.bind_some]; simpa using Ev.now false
        · simp only [if_neg e0, Option.bind_some]; simpa using Ev.now false
  · rw [eqb_ne (fun h => q (by rw [h]))]; exact Ev.now _

theorem isPlain_eq (c : Int) : impl_isPlain.f c = some (plainC c) := by
  unfold impl_isPlain.f plainC; split <;> simp [*] <;> omega
def plainB (l : List Int) : Bool := l.all plainC
theorem impl_Plain_ev (s : ByteArray) (hs : s.size ≤ 140737488351232) : Ev (fun k => impl_Plain.f k s) (plainB (bytesOf s)) := by
  refine str_loop s (fun i k => impl_Plain.l0 k s (i : Int)) plainB ?_ ?_ hs 0
  · intro i hi
    apply ev_succ; simp only [impl_Plain.l0, if_neg (show ¬ (i : Int) < s.size by omega)]; exact Ev.now _
  · intro i c r h hb hi hw hw1 ih
    apply ev_succ
    simp only [impl_Plain.l0, if_pos (show (i : Int) < s.size by omega), if_pos (show (0 : Int) ≤ i by omega), hb, isPlain_eq, Option.bind_some, hw1]
    refine ev_ite (fun h => ?_) (fun h => ?_)
    · simpa [plainB, h] using ih
    · simpa [plainB, h] using Ev.now _
theorem spec_Plain_ev (s : ByteArray) (hs : s.size ≤ 140737488351232) : Ev (fun k => spec_Plain.f k s) (plainB (bytesOf s)) := by
  refine str_loop s (fun i k => spec_Plain.l0 k s (i : Int)) plainB ?_ ?_ hs 0
  · intro i hi
    apply ev_succ; simp only [spec_Plain.l0, if_neg (show ¬ (i : Int) < s.size by omega)]; exact Ev.now _
  · intro i c r h hb hi hw hw1 ih
    apply ev_succ
    simp only [spec_Plain.l0, if_pos (show (i : Int) < s.size by omega), if_pos (show (0 : Int) ≤ i by omega), hb, hw, l1In_eq, Option.bind_some, hw1]
    refine ev_ite (fun h => ?_) (fun h => ?_)
    · have : plainC c = true := h
      simpa [plainB, this] using ih
    · have : plainC c = false := by simpa [plainC] using h
      simpa [plainB, this] using Ev.now _

def valOk (s : ByteArray) : Bool := decide ((s.size : Int) ≤ 60) && (plainB (bytesOf s) && ((trim s).toList == s.toList))
theorem impl_valOk_ev (s : ByteArray) (hs : s.size ≤ 4194304) : Ev (fun k => impl_valOk.f k s) (valOk s) := by
  unfold impl_valOk.f valOk
  refine ev_ite (fun q => ?_) (fun q => ?_)
  · rw [decide_eq_true q, Bool.true_and]
    refine Ev.bind (impl_Plain_ev s (by omega)) (ev_iteB (fun q1 => ?_) (fun q1 => ?_))
    · rw [q1, Bool.true_and]
      simp only [impl_Trim_eq s (by omega), Option.bind_some]; exact Ev.now _
    · rw [q1, Bool.false_and]; exact Ev.now _
  · rw [decide_eq_false q, Bool.false_and]; exact Ev.now _
theorem spec_l3Val_ev (s : ByteArray) (hs : s.size ≤ 4194304) : Ev (fun k => spec_l3Val.f k s) (valOk s) := by
  unfold spec_l3Val.f valOk
  refine ev_ite (fun q => ?_) (fun q => ?_)
  · rw [decide_eq_true q, Bool.true_and]
    refine Ev.bind (spec_Plain_ev s (by omega)) (ev_iteB (fun q1 => ?_) (fun q1 => ?_))
    · rw [q1, Bool.true_and]
      refine Ev.bind (spec_Trim_ev s hs) ?_
      exact Ev.now _
    · rw [q1, Bool.false_and]; exact Ev.now _
  · rw [decide_eq_false q, Bool.false_and]; exact Ev.now _
def sameReqV (m p : ByteArray) (l : List S113) (b : ByteArray) (m' p' : ByteArray) (l' : List S113) (b' : ByteArray) : Prop := m = m' ∧ p = p' ∧ l = l' ∧ b = b'
theorem eqReq_ev (m p : ByteArray) (l : List S113) (b : ByteArray) (m' p' : ByteArray) (l' : List S113) (b' : ByteArray) (hl : l.length ≤ 9223372036854775806) : Ev (fun k => laws_eqReq.f k m p l b m' p' l' b') (decb (sameReqV m p l b m' p' l' b')) := by
  unfold laws_eqReq.f
  refine ev_ite (fun q => ?_) (fun q => ?_)
  · rw [toList_iff] at q
    refine ev_ite (fun q0 => ?_) (fun q0 => ?_)
    · rw [toList_iff] at q0
      refine Ev.bind (eqHeadS_ev l l' hl) (ev_iteB (fun q1 => ?_) (fun q1 => ?_))
      · rw [eqb_iff] at q1
        refine ev_ite (fun q2 => ?_) (fun q2 => ?_)
        · rw [toList_iff] at q2; rw [decb_true ⟨q, q0, q1, q2⟩]; exact Ev.now _
        · rw [toList_iff] at q2; rw [decb_false (fun h => q2 h.2.2.2)]; exact Ev.now _
      · have : ¬ l = l' := fun h => by rw [(eqb_iff l l').mpr h] at q1; cases q1
        rw [decb_false (fun h => this h.2.2.1)]; exact Ev.now _
    · rw [toList_iff] at q0; rw [decb_false (fun h => q0 h.2.1)]; exact Ev.now _
  · rw [toList_iff] at q; rw [decb_false (fun h => q h.1)]; exact Ev.now _

theorem l1Large_eq (c : Int) (h : wrap64 c = c) : spec_l1Large.f c = some (largeC c) := by
  unfold spec_l1Large.f; rw [h, l1In_eq]; rfl

def targetC (c : Int) : Bool := decide (33 ≤ c) && decide (c ≤ 126)
def targetOk (p : ByteArray) : Bool := lenB p 1 80 && (bytesOf p).all targetC
def methodOk (m : ByteArray) : Bool := (bytesOf m).all largeC && lenB m 1 9
theorem target_plain : ∀ l : List Int, l.all targetC = (plainB l && !decide ((32 : Int) ∈ l))
  | [] => rfl
  | c :: r => by
    have ih := target_plain r
    unfold plainB at ih ⊢
    rw [List.all_cons, List.all_cons, ih]
    have e : decide ((32 : Int) ∈ c :: r) = (decide (c = 32) || decide ((32 : Int) ∈ r)) := by
      rw [Bool.eq_iff_iff, Bool.or_eq_true, decide_eq_true_iff, decide_eq_true_iff, decide_eq_true_iff, List.mem_cons]; exact ⟨fun h => h.elim (fun e => .inl e.symm) .inr, fun h => h.elim (fun e => .inl e.symm) .inr⟩
    rw [e]
    have h1 : targetC c = (plainC c && !decide (c = 32)) := by
      unfold targetC plainC
      rw [Bool.eq_iff_iff]; simp; omega
    rw [h1]
    cases plainC c <;> cases decide (c = 32) <;> cases r.all plainC <;> cases decide ((32 : Int) ∈ r) <;> rfl
theorem impl_lineOk_ev (m p : ByteArray) (hm : m.size ≤ 4194304) (hp : p.size ≤ 4194304) : Ev (fun k => impl_lineOk.f k m p) (methodOk m && targetOk p) := by
  unfold methodOk
  rw [Bool.and_assoc]
  refine str_loop m (fun i k => impl_lineOk.l0 k m p (i : Int)) (fun r => r.all largeC && (lenB m 1 9 && targetOk p)) ?_ ?_ (by omega) 0
  · intro i hi
    apply ev_succ
    simp only [impl_lineOk.l0, if_neg (show ¬ (i : Int) < m.size by omega), in_eq, Option.bind_some]
    rw [List.all_nil, Bool.true_and]
    refine ev_iteB (fun q => ?_) (fun q => ?_)
    · rw [show lenB m 1 9 = true from q, Bool.true_and]
      refine ev_iteB (fun q1 => ?_) (fun q1 => ?_)
      · rw [show targetOk p = (bytesOf p).all targetC by unfold targetOk; rw [show lenB p 1 80 = true from q1, Bool.true_and], target_plain]
        refine Ev.bind (impl_Plain_ev p (by omega)) (ev_iteB (fun q2 => ?_) (fun q2 => ?_))
        · rw [q2, Bool.true_and]
          have e0 : strings_Contains.f p (⟨#[32]⟩ : ByteArray) = some (decide (0 ≤ Lib.indexByte p.data.toList 32)) := rfl
          have e1 : (0 ≤ Lib.indexByte p.data.toList 32) ↔ (32 : Int) ∈ bytesOf p := (indexByte_mem _ _).trans (mem_bytes p 32)
          simp only [e0, Option.bind_some, decide_eq_decide.2 e1]; exact Ev.now _
        · rw [q2, Bool.false_and]; exact Ev.now _
      · rw [show targetOk p = false by unfold targetOk; rw [show lenB p 1 80 = false from q1, Bool.false_and]]; exact Ev.now _
    · rw [show lenB m 1 9 = false from q, Bool.false_and]; exact Ev.now _
  · intro i c r h hb hi hw hw1 ih
    apply ev_succ
    simp only [impl_lineOk.l0, if_pos (show (i : Int) < m.size by omega), if_pos (show (0 : Int) ≤ i by omega), hb, isLarge_eq, Option.bind_some, hw1]
    refine ev_iteB (fun q => ?_) (fun q => ?_)
    · rw [List.all_cons, q, Bool.true_and]; exact ih
    · rw [List.all_cons, q, Bool.false_and, Bool.false_and]; exact Ev.now _
theorem spec_l3Method_ev (m : ByteArray) (hm : m.size ≤ 4194304) : Ev (fun k => spec_l3Method.f k m) (methodOk m) := by
  refine str_loop m (fun i k => spec_l3Method.l0 k m (i : Int)) (fun r => r.all largeC && lenB m 1 9) ?_ ?_ (by omega) 0
  · intro i hi
    apply ev_succ
    simp only [spec_l3Method.l0, if_neg (show ¬ (i : Int) < m.size by omega), l1In_eq, Option.bind_some]
    rw [List.all_nil, Bool.true_and]; exact Ev.now _
  · intro i c r h hb hi hw hw1 ih
    apply ev_succ
    simp only [spec_l3Method.l0, if_pos (show (i : Int) < m.size by omega), if_pos (show (0 : Int) ≤ i by omega), hb, l1Large_eq c hw, Option.bind_some, hw1]
    refine ev_iteB (fun q => ?_) (fun q => ?_)
    · rw [List.all_cons, q, Bool.true_and]; exact ih
    · rw [List.all_cons, q, Bool.false_and, Bool.false_and]; exact Ev.now _
theorem spec_l3Target_ev (p : ByteArray) (hp : p.size ≤ 4194304) : Ev (fun k => spec_l3Target.f k p) (targetOk p) := by
  unfold targetOk
  rw [Bool.and_comm]
  refine str_loop p (fun i k => spec_l3Target.l0 k p (i : Int)) (fun r => r.all targetC && lenB p 1 80) ?_ ?_ (by omega) 0
  · intro i hi
    apply ev_succ
    simp only [spec_l3Target.l0, if_neg (show ¬ (i : Int) < p.size by omega), l1In_eq, Option.bind_some]
    rw [List.all_nil, Bool.true_and]; exact Ev.now _
  · intro i c r h hb hi hw hw1 ih
    apply ev_succ
    simp only [spec_l3Target.l0, if_pos (show (i : Int) < p.size by omega), if_pos (show (0 : Int) ≤ i by omega), hb, hw, l1In_eq, Option.bind_some, hw1]
    refine ev_iteB (fun q => ?_) (fun q => ?_)
    · rw [List.all_cons, show targetC c = true from q, Bool.true_and]; exact ih
    · rw [List.all_cons, show targetC c = false from q, Bool.false_and, Bool.false_and]; exact Ev.now _
abbrev ReqSt := ByteArray × ByteArray × List S113 × ByteArray × ByteArray × Bool × Int × Bool × Bool
def TEb : List Int := [116, 114, 97, 110, 115, 102, 101, 114, 45, 101, 110, 99, 111, 100, 105, 110, 103]
def CLb : List Int := [99, 111, 110, 116, 101, 110, 116, 45, 108, 101, 110, 103, 116, 104]
def spclS (n v : ByteArray) : ReqSt → ReqSt := fun (m, p, hs, b, co, ch, sz, td, bad) =>
  if (ch || td) = true then (m, p, hs, b, co, ch, sz, td, true)
  else if bytesOf n = TEb then (m, p, hs, b, v, true, sz, td, bad)
  else (m, p, hs, b, co, ch, (pnum v 9999999).1, true, bad || !(pnum v 9999999).2)
def nameS (s : ByteArray) : ByteArray := lower (strOfNums (tkC 58 (bytesOf s)))
def valS (s : ByteArray) : ByteArray := trim (strOfNums (drC 58 (bytesOf s)).tail)
def lineS (s : ByteArray) : ReqSt → ReqSt := fun (m, p, hs, b, co, ch, sz, td, bad) =>
  if drC 58 (bytesOf s) ≠ [] ∧ smallName (nameS s) = true ∧ valOk (valS s) = true then
    if bytesOf (nameS s) = CLb ∨ bytesOf (nameS s) = TEb then spclS (nameS s) (valS s) (m, p, hs, b, co, ch, sz, td, bad)
    else (m, p, hs ++ [⟨nameS s, valS s⟩], b, co, ch, sz, td, bad)
  else (m, p, hs, b, co, ch, sz, td, true)
theorem special_ev (n v m p : ByteArray) (hs : List S113) (b co : ByteArray) (ch : Bool) (sz : Int) (td bad : Bool) (hv : v.size ≤ 4194304) :
    Ev (fun k => impl_reqHead_special.f k m p hs b co ch sz td bad n v) (spclS n v (m, p, hs, b, co, ch, sz, td, bad)) := by
  have hlit : (n.toList = ([116, 114, 97, 110, 115, 102, 101, 114, 45, 101, 110, 99, 111, 100, 105, 110, 103] : List UInt8)) ↔ bytesOf n = TEb := lit_iff n _
  have hp := impl_ParseNum_eq v 9999999 (by omega)
  have j : ∀ x : Bool, x = (ch || td) → Ev (fun k => impl_reqHead_special.j0 k n v x m p hs b co ch sz td bad) (spclS n v (m, p, hs, b, co, ch, sz, td, bad)) := by
    intro x hx
    apply ev_succ
    simp only [impl_reqHead_special.j0]
    unfold spclS
    simp only []
    rw [← hx]
    cases x with
    | true => simp only [if_true]; exact Ev.now _
    | false =>
      simp only [Bool.false_eq_true, if_false]
      by_cases q : bytesOf n = TEb
      · simp only [if_pos q, if_pos (hlit.2 q)]; exact Ev.now _
      · simp only [if_neg q, if_neg (fun h => q (hlit.1 h)), hp, Option.bind_some]
        cases bad <;> simp <;> exact Ev.now _
  unfold impl_reqHead_special.f
  cases ch with
  | true => simp only [if_true]; exact j true rfl
  | false => simp only [Bool.false_eq_true, if_false]; exact j td rfl
theorem line_ev (s m p : ByteArray) (hs : List S113) (b co : ByteArray) (ch : Bool) (sz : Int) (td bad : Bool) (hz : s.size ≤ 4194304) (hl : hs.length ≤ 4194305) :
    Ev (fun k => impl_reqHead_line.f k m p hs b co ch sz td bad s) (lineS s (m, p, hs, b, co, ch, sz, td, bad)) := by
  obtain ⟨a, v, e, ha, hv⟩ := cut_one s 58 (by omega)
  have ea : a = strOfNums (tkC 58 (bytesOf s)) := by rw [← strOfNums_bytesOf a, ha]; rfl
  have ev : v = strOfNums (drC 58 (bytesOf s)).tail := by rw [← strOfNums_bytesOf v, hv]; rfl
  have hlen := drC_len 58 (bytesOf s)
  rw [bytesOf_length] at hlen
  have sa : a.size ≤ 4194304 := by rw [ea, strOfNums_size]; omega
  have sv : v.size ≤ 4194304 := by rw [ev, strOfNums_size, List.length_tail]; omega
  have el : lower a = nameS s := by unfold nameS; rw [ea]
  have et : trim v = valS s := by unfold valS; rw [ev]
  have sl : (nameS s).size ≤ 4194304 := by rw [← el]; unfold lower lowL; rw [strOfNums_size, List.length_map, bytesOf_length]; omega
  have st : (valS s).size ≤ 4194304 := by rw [← et]; have := trim_size v; omega
  have h1 := impl_Lower_ev a sa
  have h2 := impl_Trim_eq v (by omega)
  rw [el] at h1
  rw [et] at h2
  have h3 := impl_SmallName_ev (nameS s) (by omega)
  have h4 := impl_valOk_ev (valS s) st
  have jbad : Ev (fun k => impl_reqHead_line.j0 k (nameS s) (valS s) true m p hs b co ch sz td bad) (m, p, hs, b, co, ch, sz, td, true) := by
    apply ev_succ; simp only [impl_reqHead_line.j0, if_true]; exact Ev.now _
  have hCL : ((nameS s).toList = ([99, 111, 110, 116, 101, 110, 116, 45, 108, 101, 110, 103, 116, 104] : List UInt8)) ↔ bytesOf (nameS s) = CLb := lit_iff _ _
  have hTE : ((nameS s).toList = ([116, 114, 97, 110, 115, 102, 101, 114, 45, 101, 110, 99, 111, 100, 105, 110, 103] : List UInt8)) ↔ bytesOf (nameS s) = TEb := lit_iff _ _
  have hsp := special_ev (nameS s) (valS s) m p hs b co ch sz td bad st
  have jok : Ev (fun k => impl_reqHead_line.j0 k (nameS s) (valS s) false m p hs b co ch sz td bad) (if bytesOf (nameS s) = CLb ∨ bytesOf (nameS s) = TEb then spclS (nameS s) (valS s) (m, p, hs, b, co, ch, sz, td, bad) else (m, p, hs ++ [⟨nameS s, valS s⟩], b, co, ch, sz, td, bad)) := by
    apply ev_succ
    simp only [impl_reqHead_line.j0, Bool.false_eq_true, if_false]
    by_cases q1 : bytesOf (nameS s) = CLb
    · rw [if_pos (show bytesOf (nameS s) = CLb ∨ bytesOf (nameS s) = TEb from .inl q1)]
      simp only [if_pos (hCL.2 q1)]
      exact Ev.bind hsp (Ev.now _)
    · simp only [if_neg (fun h => q1 (hCL.1 h))]
      by_cases q2 : bytesOf (nameS s) = TEb
      · rw [if_pos (show bytesOf (nameS s) = CLb ∨ bytesOf (nameS s) = TEb from .inr q2)]
        simp only [if_pos (hTE.2 q2)]
        exact Ev.bind hsp (Ev.now _)
      · rw [if_neg (show ¬ (bytesOf (nameS s) = CLb ∨ bytesOf (nameS s) = TEb) from fun h => h.elim q1 q2)]
        simp only [if_neg (fun h => q2 (hTE.1 h)), if_pos (show hs.length < 4398046511104 by omega)]
        exact Ev.now _
  unfold impl_reqHead_line.f lineS
  simp only [e, Option.bind_some, decide_eq_true_iff]
  refine Ev.bind h1 ?_
  simp only [h2, Option.bind_some]
  have e58 : ((58 : UInt8).toNat : Int) = 58 := rfl
  simp only [e58]
  by_cases q0 : drC 58 (bytesOf s) ≠ []
  · simp only [if_pos q0]
    refine Ev.bind h3 ?_
    by_cases q1 : smallName (nameS s) = true
    · simp only [if_pos q1]
      refine Ev.bind h4 ?_
      by_cases q2 : valOk (valS s) = true
      · rw [if_pos ⟨q0, q1, q2⟩, q2]; exact jok
      · rw [if_neg (fun h => q2 h.2.2), Bool.not_eq_true _ |>.mp q2]; exact jbad
    · simp only [if_neg q1]
      rw [if_neg (fun h => q1 h.2.1)]; exact jbad
  · simp only [if_neg q0]
    rw [if_neg (fun h => q0 h.1)]; exact jbad

theorem rdOf_at (l : List ByteArray) (i : Nat) : rdOf ByteArray.empty l (i : Int) = l.getD i ByteArray.empty := by
  unfold rdOf; rw [Int.toNat_natCast]
def CHb : List Int := [99, 104, 117, 110, 107, 101, 100]
def H11b : List Int := [72, 84, 84, 80, 47, 49, 46, 49]
def stHs (st : ReqSt) : List S113 := st.2.2.1
def stCo (st : ReqSt) : ByteArray := st.2.2.2.2.1
def stCh (st : ReqSt) : Bool := st.2.2.2.2.2.1
def stSz (st : ReqSt) : Int := st.2.2.2.2.2.2.1
def stBad (st : ReqSt) : Bool := st.2.2.2.2.2.2.2.2
def stZ : ReqSt := (⟨#[]⟩, ⟨#[]⟩, [], ⟨#[]⟩, ⟨#[]⟩, false, 0, false, false)
def rhCode (st : ReqSt) : Int := if stBad st = true then 400 else if 8 < (stHs st).length then 431 else if stCh st = true ∧ bytesOf (lower (stCo st)) ≠ CHb then 501 else if 200 < stSz st then 413 else 0
theorem rhCode_eq (m p : ByteArray) (hs : List S113) (b co : ByteArray) (ch : Bool) (sz : Int) (td bad : Bool) : rhCode (m, p, hs, b, co, ch, sz, td, bad) = if bad = true then 400 else if 8 < hs.length then 431 else if ch = true ∧ bytesOf (lower co) ≠ CHb then 501 else if 200 < sz then 413 else 0 := rfl
def rhLs (ls : List ByteArray) (st : ReqSt) : ReqSt := ls.foldl (fun st s => lineS s st) st
def rhS (l : List Int) : ReqSt × Int :=
  if (partsG 32 (bytesOf ((linesC l).getD 0 ByteArray.empty))).length = 3 ∧ bytesOf ((partsG 32 (bytesOf ((linesC l).getD 0 ByteArray.empty))).getD 2 ByteArray.empty) = H11b ∧ (methodOk ((partsG 32 (bytesOf ((linesC l).getD 0 ByteArray.empty))).getD 0 ByteArray.empty) && targetOk ((partsG 32 (bytesOf ((linesC l).getD 0 ByteArray.empty))).getD 1 ByteArray.empty)) = true then
    (rhLs ((linesC l).drop 1) ((partsG 32 (bytesOf ((linesC l).getD 0 ByteArray.empty))).getD 0 ByteArray.empty, (partsG 32 (bytesOf ((linesC l).getD 0 ByteArray.empty))).getD 1 ByteArray.empty, [], ⟨#[]⟩, ⟨#[]⟩, false, 0, false, false),
     rhCode (rhLs ((linesC l).drop 1) ((partsG 32 (bytesOf ((linesC l).getD 0 ByteArray.empty))).getD 0 ByteArray.empty, (partsG 32 (bytesOf ((linesC l).getD 0 ByteArray.empty))).getD 1 ByteArray.empty, [], ⟨#[]⟩, ⟨#[]⟩, false, 0, false, false)))
  else (stZ, 400)
def flatR (r : ReqSt × Int) : ByteArray × ByteArray × List S113 × ByteArray × ByteArray × Bool × Int × Bool × Bool × Int :=
  (r.1.1, r.1.2.1, r.1.2.2.1, r.1.2.2.2.1, r.1.2.2.2.2.1, r.1.2.2.2.2.2.1, r.1.2.2.2.2.2.2.1, r.1.2.2.2.2.2.2.2.1, r.1.2.2.2.2.2.2.2.2, r.2)
def StP (n : Nat) (st : ReqSt) : Prop := (stHs st).length ≤ n ∧ (∀ x ∈ stHs st, x.f0.size ≤ 4194304 ∧ x.f1.size ≤ 4194304) ∧ (stCo st).size ≤ 4194304 ∧ 0 ≤ stSz st
theorem pnum_ge (s : ByteArray) (m : Int) : 0 ≤ (pnum s m).1 := by
  by_cases h : (pnum s m).2 = true
  · exact (pnum_bound s m h).1
  · have e : pnum s m = (0, false) ∨ (pnum s m).2 = true := by
      by_cases q : ∃ u : Nat, bytesOf s = numD u ∧ s.size ≤ 7 ∧ (u : Int) ≤ m
      · obtain ⟨u, h1, h2, h3⟩ := q
        right; rw [pnum_yes s m u h1 h2 h3]
      · left; exact pnum_no s m (fun u h1 h2 h3 => q ⟨u, h1, h2, h3⟩)
    rcases e with e | e
    · rw [e]; exact Int.le_refl 0
    · exact absurd e h
theorem nameS_size (s : ByteArray) (n : Nat) (h : s.size ≤ n) : (nameS s).size ≤ n := by
  have hlen := drC_len 58 (bytesOf s)
  rw [bytesOf_length] at hlen
  have := bytesOf_length (strOfNums (tkC 58 (bytesOf s)))
  unfold nameS lower lowL; rw [strOfNums_size, List.length_map, bytesOf_length, strOfNums_size]; omega
theorem valS_size (s : ByteArray) (n : Nat) (h : s.size ≤ n) : (valS s).size ≤ n := by
  have hlen := drC_len 58 (bytesOf s)
  rw [bytesOf_length] at hlen
  have := trim_size (strOfNums (drC 58 (bytesOf s)).tail)
  rw [strOfNums_size, List.length_tail] at this
  unfold valS; omega
theorem lineS_P {n : Nat} {st : ReqSt} {s : ByteArray} (h : StP n st) (hs : s.size ≤ 4194304) : StP (n + 1) (lineS s st) := by
  obtain ⟨m, p, hs', b, co, ch, sz, td, bad⟩ := st
  obtain ⟨h1, h2, h3, h4⟩ := h
  have hv := valS_size s 4194304 hs
  have hn := nameS_size s 4194304 hs
  simp only [stHs, stCo, stSz] at h1 h2 h3 h4
  unfold lineS
  simp only []
  split
  · split
    · unfold spclS
      simp only []
      split
      · exact ⟨by simp only [stHs]; omega, h2, h3, h4⟩
      · split
        · exact ⟨by simp only [stHs]; omega, h2, hv, h4⟩
        · exact ⟨by simp only [stHs]; omega, h2, h3, pnum_ge _ _⟩
    · refine ⟨by simp only [stHs, List.length_append, List.length_cons, List.length_nil]; omega, fun x hx => ?_, h3, h4⟩
      rcases List.mem_append.1 hx with hx | hx
      · exact h2 x hx
      · simp only [List.mem_cons, List.not_mem_nil, or_false] at hx
        subst hx; exact ⟨hn, hv⟩
  · exact ⟨by simp only [stHs]; omega, h2, h3, h4⟩
theorem rhLs_P : ∀ (ls : List ByteArray) (n : Nat) (st : ReqSt), StP n st → (∀ x ∈ ls, x.size ≤ 4194304) → StP (n + ls.length) (rhLs ls st)
  | [], n, st, h, _ => h
  | s :: ls, n, st, h, hx => by
    have := rhLs_P ls (n + 1) (lineS s st) (lineS_P h (hx s (by simp))) (fun x h => hx x (by simp [h]))
    rw [List.length_cons, show n + (ls.length + 1) = n + 1 + ls.length by omega]
    exact this
theorem readHead_end (ls0 ls : List ByteArray) (st : ReqSt) (i : Int) (hi : ¬ i < (ls.length : Int)) (h : StP 4194305 st) :
    Ev (fun k => impl_readHead.l0 k ls0 ls (ls.length : Int) i st.1 st.2.1 st.2.2.1 st.2.2.2.1 st.2.2.2.2.1 st.2.2.2.2.2.1 st.2.2.2.2.2.2.1 st.2.2.2.2.2.2.2.1 st.2.2.2.2.2.2.2.2) (flatR (st, rhCode st)) := by
  obtain ⟨m, p, hs', b, co, ch, sz, td, bad⟩ := st
  obtain ⟨h1, h2, h3, h4⟩ := h
  simp only [stHs, stCo, stSz] at h1 h2 h3 h4
  have hlow := impl_Lower_ev co h3
  have hlit : ((lower co).toList = ([99, 104, 117, 110, 107, 101, 100] : List UInt8)) ↔ bytesOf (lower co) = CHb := lit_iff _ _
  have j2 : ∀ x : Bool, (x = true ↔ ch = true ∧ bytesOf (lower co) ≠ CHb) → Ev (fun k => impl_readHead.j2 k x m p hs' b co ch sz td bad) (m, p, hs', b, co, ch, sz, td, bad, if ch = true ∧ bytesOf (lower co) ≠ CHb then 501 else if 200 < sz then 413 else 0) := by
    intro x hx
    apply ev_succ
    simp only [impl_readHead.j2]
    by_cases q : x = true
    · rw [if_pos (hx.1 q)]; simp only [if_pos q]; exact Ev.now _
    · rw [if_neg (fun h => q (hx.2 h))]; simp only [if_neg q]
      by_cases q1 : sz > 200
      · rw [if_pos (show 200 < sz from q1)]; simp only [if_pos q1]; exact Ev.now _
      · rw [if_neg (show ¬ 200 < sz from q1)]; simp only [if_neg q1]; exact Ev.now _
  show Ev _ (m, p, hs', b, co, ch, sz, td, bad, rhCode (m, p, hs', b, co, ch, sz, td, bad))
  rw [rhCode_eq]
  apply ev_succ
  simp only [impl_readHead.l0, if_neg hi]
  by_cases c0 : bad = true
  · simp only [if_pos c0]; exact Ev.now _
  simp only [if_neg c0]
  by_cases c1 : (hs'.length : Int) > 8
  · simp only [if_pos c1, if_pos (show 8 < hs'.length by omega)]; exact Ev.now _
  simp only [if_neg c1, if_neg (show ¬ 8 < hs'.length by omega)]
  cases ch with
  | true =>
    simp only [if_true]
    refine Ev.bind hlow ?_
    have := j2 ((lower co).toList != ([99, 104, 117, 110, 107, 101, 100] : List UInt8)) (by
      rw [bne_iff_ne, Ne, hlit]; simp)
    simpa using this
  | false =>
    simp only [Bool.false_eq_true, if_false]
    have := j2 false (by simp)
    simpa using this
theorem readHead_l0 (ls0 ls : List ByteArray) (hx : ∀ x ∈ ls, x.size ≤ 4194304) (hn : ls.length ≤ 4194304) : ∀ (m i : Nat) (st : ReqSt), ls.length - i = m → i ≤ ls.length → StP i st →
    Ev (fun k => impl_readHead.l0 k ls0 ls (ls.length : Int) (i : Int) st.1 st.2.1 st.2.2.1 st.2.2.2.1 st.2.2.2.2.1 st.2.2.2.2.2.1 st.2.2.2.2.2.2.1 st.2.2.2.2.2.2.2.1 st.2.2.2.2.2.2.2.2) (flatR (rhLs (ls.drop i) st, rhCode (rhLs (ls.drop i) st)))
  | 0, i, st, hm, hi, h => by
    have he : i = ls.length := by omega
    subst he
    rw [List.drop_length]
    exact readHead_end ls0 ls st _ (by omega) ⟨by have := h.1; omega, h.2⟩
  | m + 1, i, st, hm, hi, h => by
    have hlt : i < ls.length := by omega
    have hsz := hx ls[i] (List.getElem_mem hlt)
    have ih := readHead_l0 ls0 ls hx hn m (i + 1) (lineS ls[i] st) (by omega) (by omega) (lineS_P h hsz)
    have hw1 : wrap64 ((i : Int) + 1) = ((i + 1 : Nat) : Int) := by rw [wrap_id (by omega) (by omega)]; rfl
    have hgt : ls[i]? = some ls[i] := List.getElem?_eq_getElem hlt
    have hrd : rdOf ByteArray.empty ls (i : Int) = ls[i] := by rw [rdOf_at, List.getD_eq_getElem?_getD, hgt]; rfl
    have hd : ls.drop i = ls[i] :: ls.drop (i + 1) := List.drop_eq_getElem_cons hlt
    have hfold : rhLs (ls.drop i) st = rhLs (ls.drop (i + 1)) (lineS ls[i] st) := by rw [hd]; rfl
    rw [hfold]
    have hl := h.1
    obtain ⟨a0, a1, a2, a3, a4, a5, a6, a7, a8⟩ := st
    simp only [stHs] at hl
    have hline := line_ev ls[i] a0 a1 a2 a3 a4 a5 a6 a7 a8 hsz (by omega)
    apply ev_succ
    simp only [impl_readHead.l0, if_pos (show (i : Int) < (ls.length : Int) by omega), if_pos (show (0 : Int) ≤ (i : Int) by omega), hrd, hw1]
    exact Ev.bind hline ih
theorem split_one (s : ByteArray) (c : UInt8) (h : s.size ≤ 4194304) : strings_Split.f s (⟨#[c]⟩ : ByteArray) = some (partsG (c.toNat : Int) (bytesOf s)) := by
  unfold strings_Split.f
  rw [if_pos ⟨by omega, Nat.le_refl 1⟩, splitB_partsG c s.size s (Nat.le_refl _)]
theorem splG_size (c : Int) : ∀ (l cur : List Int), ∀ a ∈ splG c cur l, a.length ≤ cur.length + l.length
  | [], cur, a, h => by simp [splG] at h; subst h; simp
  | x :: r, cur, a, h => by
    rw [splG] at h
    split at h
    · simp only [List.mem_cons] at h
      rcases h with h | h
      · subst h; omega
      · have := splG_size c r [] a h; simp only [List.length_nil, List.length_cons] at this ⊢; omega
    · have := splG_size c r _ a h; simp only [List.length_append, List.length_cons, List.length_nil] at this ⊢; omega
theorem partsG_size (c : Int) (l : List Int) (i : Nat) : ((partsG c l).getD i ByteArray.empty).size ≤ l.length := by
  rw [List.getD_eq_getElem?_getD]
  rcases Nat.lt_or_ge i (partsG c l).length with h | h
  · rw [List.getElem?_eq_getElem h]
    show ((partsG c l)[i]).size ≤ _
    obtain ⟨a, ha, e⟩ := List.mem_map.1 (List.getElem_mem h)
    rw [← e, strOfNums_size]
    have := splG_size c l [] a ha
    simpa using this
  · rw [List.getElem?_eq_none h]; exact Nat.zero_le _
theorem readHead_ev (l : List Int) (hl : l.length ≤ 4194304) (hr : ∀ x ∈ l, 0 ≤ x ∧ x < 256) : Ev (fun k => impl_readHead.f k (strOfNums l)) (flatR (rhS l)) := by
  have hln := linesC_len l
  have hsz := linesC_size hr
  unfold impl_readHead.f rhS
  simp only [split_lines l hl hr, Option.bind_some]
  generalize linesC l = ls at hln hsz
  have h00 : rdOf ByteArray.empty ls 0 = ls.getD 0 ByteArray.empty := rdOf_at ls 0
  have hg : (ls.getD 0 ByteArray.empty).size ≤ 4194304 := by
    rw [List.getD_eq_getElem?_getD, List.getElem?_eq_getElem (show 0 < ls.length by omega)]
    have := hsz ls[0] (List.getElem_mem _)
    show ls[0].size ≤ _
    omega
  simp only [if_pos (show (0 : Int) < (ls.length : Int) by omega), h00, split_one _ 32 hg, Option.bind_some, show ((32 : UInt8).toNat : Int) = 32 from rfl]
  have hps := partsG_size 32 (bytesOf (ls.getD 0 ByteArray.empty))
  rw [bytesOf_length] at hps
  generalize partsG 32 (bytesOf (ls.getD 0 ByteArray.empty)) = ps at hps
  have g0 : rdOf ByteArray.empty ps 0 = ps.getD 0 ByteArray.empty := rdOf_at ps 0
  have g1 : rdOf ByteArray.empty ps 1 = ps.getD 1 ByteArray.empty := rdOf_at ps 1
  have g2 : rdOf ByteArray.empty ps 2 = ps.getD 2 ByteArray.empty := rdOf_at ps 2
  have hlit : ((ps.getD 2 ByteArray.empty).toList = ([72, 84, 84, 80, 47, 49, 46, 49] : List UInt8)) ↔ bytesOf (ps.getD 2 ByteArray.empty) = H11b := lit_iff _ _
  have jbad : Ev (fun k => impl_readHead.j0 k ls ps true (⟨#[]⟩ : ByteArray) (⟨#[]⟩ : ByteArray) ([] : List S113) (⟨#[]⟩ : ByteArray) (⟨#[]⟩ : ByteArray) false 0 false false) (flatR (stZ, 400)) := by
    apply ev_succ; simp only [impl_readHead.j0, if_true]; exact Ev.now _
  by_cases q0 : ps.length = 3
  · simp only [if_pos (show (ps.length : Int) = 3 by omega), if_pos (show (2 : Int) < (ps.length : Int) by omega), g0, g1, g2]
    by_cases q1 : bytesOf (ps.getD 2 ByteArray.empty) = H11b
    · simp only [if_pos (hlit.2 q1), if_pos (show (0 : Int) < (ps.length : Int) by omega), if_pos (show (1 : Int) < (ps.length : Int) by omega)]
      refine Ev.bind (impl_lineOk_ev _ _ (Nat.le_trans (hps 0) hg) (Nat.le_trans (hps 1) hg)) ?_
      by_cases q2 : (methodOk (ps.getD 0 ByteArray.empty) && targetOk (ps.getD 1 ByteArray.empty)) = true
      · rw [if_pos ⟨q0, q1, q2⟩, q2]
        apply ev_succ
        simp only [impl_readHead.j0, Bool.not_true, Bool.false_eq_true, if_false, if_pos (show (0 : Int) < (ps.length : Int) by omega), if_pos (show (1 : Int) < (ps.length : Int) by omega), if_pos (show (1 : Int) ≤ (ls.length : Int) by omega), Option.bind_some, g0, g1]
        have hd : ∀ x ∈ ls.drop 1, x.size ≤ 4194304 := fun x hx => by have := hsz x (List.mem_of_mem_drop hx); omega
        exact readHead_l0 ls (ls.drop 1) hd (by rw [List.length_drop]; omega) _ 0 (ps.getD 0 ByteArray.empty, ps.getD 1 ByteArray.empty, [], ⟨#[]⟩, ⟨#[]⟩, false, 0, false, false) rfl (Nat.zero_le _) ⟨Nat.le_refl 0, fun x hx => absurd hx (by simp [stHs]), by simp only [stCo]; decide, Int.le_refl 0⟩
      · rw [if_neg (fun h => q2 h.2.2), Bool.not_eq_true _ |>.mp q2]; exact jbad
    · simp only [if_neg (fun h => q1 (hlit.1 h))]
      rw [if_neg (fun h => q1 h.2.1)]; exact jbad
  · simp only [if_neg (show ¬ (ps.length : Int) = 3 by omega)]
    rw [if_neg (fun h => q0 h.1)]; exact jbad
abbrev ReqR := ByteArray × ByteArray × List S113 × ByteArray × Int × Int
def badQ (c : Int) : ReqR := (⟨#[]⟩, ⟨#[]⟩, [], ⟨#[]⟩, 0, c)
def getC (l : List Int) (e : Nat) (m p : ByteArray) (hs : List S113) (ch : Bool) (sz : Int) (code : Int) : ReqR :=
  if code ≠ 0 then badQ code
  else if ch = true then
    (if (chR (l.length + 1) (l.drop e) []).2.2 = 0 then (m, p, hs, strOfNums (chR (l.length + 1) (l.drop e) []).1, (l.length : Int) - ((chR (l.length + 1) (l.drop e) []).2.1.length : Int), 0) else badQ (chR (l.length + 1) (l.drop e) []).2.2)
  else if l.length < e + sz.toNat then badQ 1
  else (m, p, hs, strOfNums ((l.drop e).take sz.toNat), ((e + sz.toNat : Nat) : Int), 0)
/-- what GetReq answers: the request, where it ends, a code -/
def getQ (l : List Int) : ReqR :=
  if headEnd l < 0 then (if 400 < l.length then badQ 431 else badQ 1)
  else getC l (headEnd l).toNat (rhS (l.take ((headEnd l).toNat - 4))).1.1 (rhS (l.take ((headEnd l).toNat - 4))).1.2.1 (stHs (rhS (l.take ((headEnd l).toNat - 4))).1) (stCh (rhS (l.take ((headEnd l).toNat - 4))).1) (stSz (rhS (l.take ((headEnd l).toNat - 4))).1) (rhS (l.take ((headEnd l).toNat - 4))).2
theorem rhS_P (l : List Int) (hl : l.length ≤ 4194303) (hr : ∀ x ∈ l, 0 ≤ x ∧ x < 256) : StP 4194305 (rhS l).1 ∧ ((rhS l).2 = 0 → stSz (rhS l).1 ≤ 200 ∧ (stHs (rhS l).1).length ≤ 8) ∧ (rhS l).2 ≠ 1 := by
  unfold rhS
  split
  · have hsz := linesC_size hr
    have hln := linesC_len l
    have h := rhLs_P ((linesC l).drop 1) 0 ((partsG 32 (bytesOf ((linesC l).getD 0 ByteArray.empty))).getD 0 ByteArray.empty, (partsG 32 (bytesOf ((linesC l).getD 0 ByteArray.empty))).getD 1 ByteArray.empty, [], ⟨#[]⟩, ⟨#[]⟩, false, 0, false, false)
      ⟨Nat.le_refl 0, fun x hx => absurd hx (by simp [stHs]), by simp only [stCo]; decide, Int.le_refl 0⟩ (fun x hx => by have := hsz x (List.mem_of_mem_drop hx); omega)
    rw [List.length_drop] at h
    simp only []
    generalize rhLs ((linesC l).drop 1) ((partsG 32 (bytesOf ((linesC l).getD 0 ByteArray.empty))).getD 0 ByteArray.empty, (partsG 32 (bytesOf ((linesC l).getD 0 ByteArray.empty))).getD 1 ByteArray.empty, [], ⟨#[]⟩, ⟨#[]⟩, false, 0, false, false) = st at h
    refine ⟨⟨by have := h.1; omega, h.2⟩, ?_, ?_⟩
    · unfold rhCode
      split
      · intro h; exact absurd h (by decide)
      · split
        · intro h; exact absurd h (by decide)
        · split
          · intro h; exact absurd h (by decide)
          · split
            · intro h; exact absurd h (by decide)
            · intro _; exact ⟨by omega, by omega⟩
    · unfold rhCode
      repeat' split
      all_goals decide
  · exact ⟨⟨Nat.zero_le _, fun x hx => absurd hx (by simp [stHs, stZ]), by simp only [stCo, stZ]; decide, Int.le_refl 0⟩, fun h => absurd h (by decide), by decide⟩
theorem getReq_ev (l : List Int) (hl : l.length ≤ 4194303) (hr : ∀ x ∈ l, 0 ≤ x ∧ x < 256) : Ev (fun k => impl_GetReq.f k l) (getQ l) := by
  unfold impl_GetReq.f getQ
  rw [impl_HeadEnd_eq l hr]
  simp only [Option.bind_some]
  have hb := fnd4_bound (l.take 400) 0
  have h4 := fnd4_4 (l.take 400) 0
  rw [List.length_take] at hb h4
  change headEnd l ≤ _ ∧ _ at hb
  change 0 ≤ headEnd l → _ at h4
  by_cases q0 : headEnd l < 0
  · rw [if_pos q0]; simp only [if_pos q0]
    by_cases q1 : (l.length : Int) > 400
    · rw [if_pos (show 400 < l.length by omega)]; simp only [if_pos q1]; exact Ev.now _
    · rw [if_neg (show ¬ 400 < l.length by omega)]; simp only [if_neg q1]; exact Ev.now _
  rw [if_neg q0]; simp only [if_neg q0]
  have h44 : (4 : Int) ≤ headEnd l := by have := (h4 (by omega)).1; change (0 : Int) + 4 ≤ headEnd l at this; omega
  obtain ⟨e, he⟩ : ∃ e : Nat, headEnd l = (e : Int) := ⟨(headEnd l).toNat, by omega⟩
  rw [he] at hb h44
  simp only [he, Int.toNat_natCast]
  clear h4 q0
  have hw : wrap64 ((e : Int) - 4) = ((e - 4 : Nat) : Int) := by rw [wrap_id (by omega) (by omega)]; omega
  simp only [hw, if_pos (show (0 : Int) ≤ ((e - 4 : Nat) : Int) by omega), if_pos (show ((e - 4 : Nat) : Int) ≤ (l.length : Int) by omega), Int.toNat_natCast]
  have hrt : ∀ x ∈ l.take (e - 4), 0 ≤ x ∧ x < 256 := fun x hx => hr x (List.mem_of_mem_take hx)
  have hlt : (l.take (e - 4)).length ≤ 4194303 := by rw [List.length_take]; omega
  obtain ⟨hP, hP2, _⟩ := rhS_P (l.take (e - 4)) hlt hrt
  have hrh := readHead_ev (l.take (e - 4)) (by omega) hrt
  generalize rhS (l.take (e - 4)) = r at hP hP2 hrh
  obtain ⟨⟨m, p, hs, b, co, ch, sz, td, bad⟩, code⟩ := r
  have hrh' : Ev (fun k => impl_readHead.f k (strOfNums (l.take (e - 4)))) (m, p, hs, b, co, ch, sz, td, bad, code) := hrh
  refine Ev.bind hrh' ?_
  have hs1 : (0 : Int) ≤ sz := hP.2.2.2
  have hs3 : code = 0 → sz ≤ 200 := fun h => (hP2 h).1
  clear hP hP2 hrh hrh'
  show Ev _ (getC l e m p hs ch sz code)
  unfold getC
  by_cases q1 : code = 0
  · simp only [if_neg (show ¬ code ≠ 0 from fun h => h q1), if_pos q1]
    have hs2 := hs3 q1
    clear hs3
    cases ch with
    | true =>
      simp only [if_true]
      refine Ev.bind (GetChunks_impl l (by omega) hr e (by omega) (l.length + 1) (by rw [List.length_drop]; omega)) ?_
      generalize chR (l.length + 1) (l.drop e) [] = c
      obtain ⟨c0, c1, c2⟩ := c
      by_cases q2 : c2 = 0
      · subst q2
        rw [chV_good]
        simp only [if_true]; exact Ev.now _
      · rw [chV_bad _ _ _ q2]
        simp only [if_neg q2]; exact Ev.now _
    | false =>
      simp only [Bool.false_eq_true, if_false]
      obtain ⟨z, hz⟩ : ∃ z : Nat, sz = (z : Int) := ⟨sz.toNat, by omega⟩
      subst hz
      have hw2 : wrap64 ((e : Int) + (z : Int)) = ((e + z : Nat) : Int) := by rw [wrap_id (by omega) (by omega)]; rfl
      simp only [hw2, Int.toNat_natCast]
      clear hw2 hs1 hs2 hw hb h44 hlt hrt hl hr he q1
      by_cases q2 : l.length < e + z
      · rw [if_pos q2]
        simp only [if_pos (show ((e + z : Nat) : Int) > (l.length : Int) by omega), if_neg (show ¬ (1 : Int) = 0 by decide)]
        exact Ev.now _
      · rw [if_neg q2]
        simp only [if_neg (show ¬ ((e + z : Nat) : Int) > (l.length : Int) by omega), if_pos (show (0 : Int) ≤ (e : Int) by omega), if_pos (show (e : Int) ≤ ((e + z : Nat) : Int) by omega), if_pos (show ((e + z : Nat) : Int) ≤ (l.length : Int) by omega)]
        have ed : (l.take (e + z)).drop e = (l.drop e).take z := by rw [List.drop_take, Nat.add_sub_cancel_left]
        rw [ed]
        exact Ev.now _
  · simp only [if_pos (show code ≠ 0 from q1), if_neg q1]
    exact Ev.now _

/-! what more bytes behind change of what GetReq answers -/
def qEnd (r : ReqR) : Int := r.2.2.2.2.1
def qCode (r : ReqR) : Int := r.2.2.2.2.2
theorem qCode_bad (c : Int) : qCode (badQ c) = c := rfl
theorem getC_end (l : List Int) (e : Nat) (he : e ≤ l.length) (m p : ByteArray) (hs : List S113) (ch : Bool) (sz code : Int) : qCode (getC l e m p hs ch sz code) = 0 → (e : Int) ≤ qEnd (getC l e m p hs ch sz code) := by
  unfold getC
  split
  · intro h; exact absurd h (by assumption)
  · split
    · split
      · rename_i h0
        have h1 := chR_len _ _ _ h0
        rw [List.length_drop] at h1
        intro _
        show (e : Int) ≤ (l.length : Int) - _
        omega
      · intro h; exact absurd h (by assumption)
    · split
      · intro h; exact absurd (show (1 : Int) = 0 from h) (by decide)
      · intro _
        show (e : Int) ≤ ((e + sz.toNat : Nat) : Int)
        omega
theorem headEnd_le (l : List Int) : headEnd l ≤ l.length := by
  have := (fnd4_bound (l.take 400) 0).1
  rw [List.length_take] at this
  unfold headEnd; omega
/-! how the model reads a head: its state, and that it comes to the same as the program's -/
abbrev FrSt := ByteArray × ByteArray × List S113 × ByteArray × Int × Int × List Int
def goodLine (s : ByteArray) : Prop := drC 58 (bytesOf s) ≠ [] ∧ smallName (nameS s) = true ∧ valOk (valS s) = true
instance (s : ByteArray) : Decidable (goodLine s) := by unfold goodLine; exact inferInstance
def headF (s : ByteArray) : FrSt → FrSt × Int := fun (m, p, hs, b, sz, td, co) =>
  if goodLine s then
    if bytesOf (nameS s) = CLb then ((m, p, hs, b, (pnum (valS s) 9999999).1, td + 1, co), if (pnum (valS s) 9999999).2 = true then 0 else 400)
    else if bytesOf (nameS s) = TEb then ((m, p, hs, b, -1, td + 1, if bytesOf (lower (valS s)) = CHb then co else co ++ [501]), 0)
    else ((m, p, hs ++ [⟨nameS s, valS s⟩], b, sz, td, if 8 < hs.length + 1 then co ++ [431] else co), 0)
  else ((m, p, hs, b, sz, td, co), 400)
def headsF : List ByteArray → FrSt → FrSt × Int
  | [], f => (f, 0)
  | s :: r, f => if (headF s f).2 = 0 then headsF r (headF s f).1 else headF s f
def leastF (co : List Int) : Int := if 431 ∈ co then 431 else if 501 ∈ co then 501 else if 413 ∈ co then 413 else 0
structure FrR (m p : ByteArray) (hs : List S113) (sz td : Int) (co : List Int) (m' p' : ByteArray) (hs' : List S113) (cv : ByteArray) (ch : Bool) (sz' : Int) (td' bad : Bool) : Prop where
  le : td ≤ 1
  ok : bad = false
  em : m = m'
  ep : p = p'
  eh : hs = hs'
  c1 : ch = true → sz = -1 ∧ (501 ∈ co ↔ bytesOf (lower cv) ≠ CHb)
  c0 : ch = false → sz = sz' ∧ 501 ∉ co
  z0 : td' = false → sz' = 0
  xo : ¬ (ch = true ∧ td' = true)
  one : td = if (ch || td') = true then 1 else 0
  h8 : 431 ∈ co ↔ 8 < hs.length
  no : 413 ∉ co
def FrT (f : FrSt) (st : ReqSt) : Prop :=
  0 ≤ f.2.2.2.2.2.1 ∧ ((1 < f.2.2.2.2.2.1 ∧ stBad st = true) ∨ FrR f.1 f.2.1 f.2.2.1 f.2.2.2.2.1 f.2.2.2.2.2.1 f.2.2.2.2.2.2 st.1 st.2.1 st.2.2.1 st.2.2.2.2.1 st.2.2.2.2.2.1 st.2.2.2.2.2.2.1 st.2.2.2.2.2.2.2.1 st.2.2.2.2.2.2.2.2)
theorem lineS_bad (s : ByteArray) (st : ReqSt) (h : stBad st = true) : stBad (lineS s st) = true := by
  obtain ⟨m, p, hs, b, co, ch, sz, td, bad⟩ := st
  simp only [stBad] at h
  subst h
  unfold lineS spclS stBad
  simp only []
  split
  · split
    · split
      · rfl
      · split <;> simp
    · rfl
  · rfl
theorem rhLs_bad : ∀ (ls : List ByteArray) (st : ReqSt), stBad st = true → stBad (rhLs ls st) = true
  | [], _, h => h
  | s :: r, st, h => rhLs_bad r _ (lineS_bad s st h)
theorem headF_T (s : ByteArray) (f : FrSt) (st : ReqSt) (h : FrT f st) : ((headF s f).2 = 0 → FrT (headF s f).1 (lineS s st)) ∧ ((headF s f).2 ≠ 0 → (headF s f).2 = 400 ∧ stBad (lineS s st) = true) := by
  obtain ⟨h0, h⟩ := h
  rcases h with ⟨h1, hb⟩ | h
  · have hb' := lineS_bad s st hb
    obtain ⟨m, p, hs, b, sz, td, co⟩ := f
    simp only [] at h0 h1
    unfold headF
    simp only []
    by_cases q : goodLine s
    · simp only [if_pos q]
      by_cases q1 : bytesOf (nameS s) = CLb
      · simp only [if_pos q1]
        refine ⟨fun _ => ⟨by simp only []; omega, .inl ⟨by simp only []; omega, hb'⟩⟩, fun h => ?_⟩
        by_cases q2 : (pnum (valS s) 9999999).2 = true
        · rw [if_pos q2] at h; exact absurd rfl h
        · rw [if_neg q2]; exact ⟨rfl, hb'⟩
      · simp only [if_neg q1]
        by_cases q2 : bytesOf (nameS s) = TEb
        · simp only [if_pos q2]
          exact ⟨fun _ => ⟨by simp only []; omega, .inl ⟨by simp only []; omega, hb'⟩⟩, fun h => absurd rfl h⟩
        · simp only [if_neg q2]
          exact ⟨fun _ => ⟨h0, .inl ⟨h1, hb'⟩⟩, fun h => absurd rfl h⟩
    · simp only [if_neg q]
      exact ⟨fun h => absurd h (by decide), fun _ => ⟨by simp, hb'⟩⟩
  · obtain ⟨m, p, hs, b, sz, td, co⟩ := f
    obtain ⟨m', p', hs', b', cv, ch, sz', td', bad⟩ := st
    simp only [] at h0 h
    obtain ⟨le, ok, em, ep, eh, c1, c0, z0, xo, one, h8, no⟩ := h
    subst ok; subst em; subst ep; subst eh
    unfold headF lineS
    simp only []
    by_cases q : goodLine s
    · simp only [if_pos q]
      rw [if_pos (show drC 58 (bytesOf s) ≠ [] ∧ smallName (nameS s) = true ∧ valOk (valS s) = true from q)]
      by_cases q1 : bytesOf (nameS s) = CLb
      · simp only [if_pos q1]
        rw [if_pos (show bytesOf (nameS s) = CLb ∨ bytesOf (nameS s) = TEb from .inl q1)]
        have q2 : ¬ bytesOf (nameS s) = TEb := by rw [q1]; decide
        unfold spclS
        simp only []
        by_cases q3 : (ch || td') = true
        · rw [if_pos q3] at one
          simp only [if_pos q3]
          refine ⟨fun _ => ⟨by simp only []; omega, .inl ⟨by simp only []; omega, rfl⟩⟩, fun h => ?_⟩
          by_cases q4 : (pnum (valS s) 9999999).2 = true
          · rw [if_pos q4] at h; exact absurd rfl h
          · rw [if_neg q4]; exact ⟨rfl, rfl⟩
        · rw [if_neg q3] at one
          simp only [if_neg q3, if_neg q2]
          simp only [Bool.or_eq_true, not_or, Bool.not_eq_true] at q3
          obtain ⟨rfl, rfl⟩ := q3
          by_cases q4 : (pnum (valS s) 9999999).2 = true
          · rw [if_pos q4]
            refine ⟨fun _ => ⟨by simp only []; omega, .inr ⟨by simp only []; omega, by simp [q4], rfl, rfl, rfl, fun h => absurd h (by simp), fun _ => ⟨rfl, (c0 rfl).2⟩, fun h => absurd h (by simp), fun h => absurd h.1 (by simp), by simp only []; rw [one]; rfl, h8, no⟩⟩, fun h => absurd rfl h⟩
          · rw [if_neg q4]
            exact ⟨fun h => absurd h (by decide), fun _ => ⟨rfl, by simp [stBad, q4]⟩⟩
      · simp only [if_neg q1]
        by_cases q2 : bytesOf (nameS s) = TEb
        · simp only [if_pos q2]
          rw [if_pos (show bytesOf (nameS s) = CLb ∨ bytesOf (nameS s) = TEb from .inr q2)]
          unfold spclS
          simp only []
          refine ⟨fun _ => ?_, fun h => absurd rfl h⟩
          by_cases q3 : (ch || td') = true
          · rw [if_pos q3] at one
            simp only [if_pos q3]
            exact ⟨by simp only []; omega, .inl ⟨by simp only []; omega, rfl⟩⟩
          · rw [if_neg q3] at one
            simp only [if_neg q3, if_pos q2]
            simp only [Bool.or_eq_true, not_or, Bool.not_eq_true] at q3
            obtain ⟨rfl, rfl⟩ := q3
            have n5 := (c0 rfl).2
            refine ⟨by simp only []; omega, .inr ⟨by simp only []; omega, rfl, rfl, rfl, rfl, fun _ => ⟨rfl, ?_⟩, fun h => absurd h (by simp), fun _ => z0 rfl, fun h => absurd h.2 (by simp), by simp only []; rw [one]; rfl, ?_, ?_⟩⟩
            · by_cases q4 : bytesOf (lower (valS s)) = CHb
              · simp [q4, n5]
              · simp [q4]
            · by_cases q4 : bytesOf (lower (valS s)) = CHb
              · simp [q4, h8]
              · simp [q4, h8]
            · by_cases q4 : bytesOf (lower (valS s)) = CHb
              · simp [q4, no]
              · simp [q4, no]
        · simp only [if_neg q2]
          rw [if_neg (show ¬ (bytesOf (nameS s) = CLb ∨ bytesOf (nameS s) = TEb) from fun h => h.elim q1 q2)]
          refine ⟨fun _ => ⟨h0, .inr ⟨le, rfl, rfl, rfl, rfl, fun h => ⟨(c1 h).1, ?_⟩, fun h => ⟨(c0 h).1, ?_⟩, z0, xo, one, ?_, ?_⟩⟩, fun h => absurd rfl h⟩
          · by_cases q4 : 8 < hs.length + 1
            · simp [q4, (c1 h).2]
            · simp [q4, (c1 h).2]
          · by_cases q4 : 8 < hs.length + 1
            · simp [q4, (c0 h).2]
            · simp [q4, (c0 h).2]
          · by_cases q4 : 8 < hs.length + 1
            · simp [q4]
            · have : ¬ 8 < hs.length := by omega
              simp [q4, h8, this]
          · by_cases q4 : 8 < hs.length + 1
            · simp [q4, no]
            · simp [q4, no]
    · simp only [if_neg q]
      rw [if_neg (show ¬ (drC 58 (bytesOf s) ≠ [] ∧ smallName (nameS s) = true ∧ valOk (valS s) = true) from q)]
      exact ⟨fun h => absurd h (by decide), fun _ => ⟨by simp, rfl⟩⟩
theorem headsF_T : ∀ (ls : List ByteArray) (f : FrSt) (st : ReqSt), FrT f st → ((headsF ls f).2 = 0 → FrT (headsF ls f).1 (rhLs ls st)) ∧ ((headsF ls f).2 ≠ 0 → (headsF ls f).2 = 400 ∧ stBad (rhLs ls st) = true)
  | [], f, st, h => ⟨fun _ => h, fun h => absurd rfl h⟩
  | s :: r, f, st, h => by
    obtain ⟨h1, h2⟩ := headF_T s f st h
    unfold headsF
    by_cases q : (headF s f).2 = 0
    · rw [if_pos q]; exact headsF_T r _ _ (h1 q)
    · rw [if_neg q]
      obtain ⟨h3, h4⟩ := h2 q
      exact ⟨fun h => absurd h q, fun _ => ⟨h3, rhLs_bad r _ h4⟩⟩
/-- the code that the model tells of a head -/
def fcode (r : FrSt × Int) : Int := if r.2 = 0 then (if 1 < r.1.2.2.2.2.2.1 then 400 else leastF (if 200 < r.1.2.2.2.2.1 then r.1.2.2.2.2.2.2 ++ [413] else r.1.2.2.2.2.2.2)) else r.2
theorem fcode_eq (ls : List ByteArray) (f : FrSt) (st : ReqSt) (h : FrT f st) : fcode (headsF ls f) = rhCode (rhLs ls st) ∧ (fcode (headsF ls f) = 0 → (headsF ls f).1.1 = (rhLs ls st).1 ∧ (headsF ls f).1.2.1 = (rhLs ls st).2.1 ∧ (headsF ls f).1.2.2.1 = stHs (rhLs ls st) ∧ (stCh (rhLs ls st) = true → (headsF ls f).1.2.2.2.2.1 = -1) ∧ (stCh (rhLs ls st) = false → (headsF ls f).1.2.2.2.2.1 = stSz (rhLs ls st))) := by
  obtain ⟨h1, h2⟩ := headsF_T ls f st h
  generalize headsF ls f = F at h1 h2
  generalize rhLs ls st = S at h1 h2
  obtain ⟨⟨m, p, hs, b, sz, td, co⟩, c⟩ := F
  obtain ⟨m', p', hs', b', cv, ch, sz', td', bad⟩ := S
  simp only [FrT, stBad] at h1 h2
  rw [rhCode_eq]
  simp only [fcode, stHs, stCh, stSz]
  by_cases q : c = 0
  · simp only [if_pos q]
    obtain ⟨h0, h⟩ := h1 q
    rcases h with ⟨h9, rfl⟩ | ⟨le, ok, em, ep, eh, c1, c0, z0, xo, one, h8, no⟩
    · rw [if_pos h9, if_pos rfl]; exact ⟨rfl, fun h => absurd h (by decide)⟩
    · subst ok; subst em; subst ep; subst eh
      rw [if_neg (show ¬ 1 < td by omega), if_neg (show ¬ false = true by decide)]
      refine ⟨?_, fun _ => ⟨rfl, rfl, rfl, fun h => (c1 h).1, fun h => (c0 h).1⟩⟩
      · unfold leastF
        by_cases q1 : 8 < hs.length
        · have : (431 : Int) ∈ (if 200 < sz then co ++ [413] else co) := by split <;> simp [h8.2 q1]
          rw [if_pos this, if_pos q1]
        · have n4 : (431 : Int) ∉ co := fun h => q1 (h8.1 h)
          have : (431 : Int) ∉ (if 200 < sz then co ++ [413] else co) := by split <;> simp [n4]
          rw [if_neg this, if_neg q1]
          cases ch with
          | true =>
            obtain ⟨e1, e5⟩ := c1 rfl
            have z1 : td' = false := by cases td' with | true => exact absurd ⟨rfl, rfl⟩ xo | false => rfl
            have z2 := z0 z1
            rw [if_neg (show ¬ 200 < sz by omega)]
            by_cases q2 : bytesOf (lower cv) ≠ CHb
            · rw [if_pos (e5.2 q2), if_pos ⟨rfl, q2⟩]
            · rw [if_neg (fun h => q2 (e5.1 h)), if_neg no, if_neg (fun h => q2 h.2), if_neg (show ¬ 200 < sz' by omega)]
          | false =>
            obtain ⟨e1, e5⟩ := c0 rfl
            subst e1
            rw [if_neg (show ¬ (false = true ∧ bytesOf (lower cv) ≠ CHb) from fun h => absurd h.1 (by decide))]
            by_cases q2 : 200 < sz
            · simp [q2, e5]
            · simp [q2, e5, no]
  · simp only [if_neg q]
    obtain ⟨h3, rfl⟩ := h2 q
    rw [if_pos rfl]
    exact ⟨h3, fun h => absurd h (by omega)⟩
theorem FrT_start (m p : ByteArray) : FrT (m, p, [], ⟨#[]⟩, 0, 0, []) (m, p, [], ⟨#[]⟩, ⟨#[]⟩, false, 0, false, false) :=
  ⟨by simp only []; omega, .inr ⟨by simp only []; omega, rfl, rfl, rfl, rfl, fun h => absurd h (by simp), fun _ => ⟨rfl, by simp⟩, fun _ => rfl, fun h => absurd h.1 (by simp), rfl, by simp, by simp⟩⟩

theorem bt_at' {s : ByteArray} {i : Nat} {c : Int} {r : List Int} (h : (bytesOf s).drop i = c :: r) : bt s (i : Int) = c := (bt_drop h).1
theorem spec_l3Lines_ev (s : ByteArray) (hs : s.size ≤ 4194304) : Ev (fun k => spec_l3Lines.f k s) (linesC (bytesOf s)) := by
  have key : ∀ (n i st : Nat) (acc : List ByteArray), s.size - i ≤ n → st ≤ i → i ≤ s.size → acc.length ≤ i → Ev (fun k => spec_l3Lines.l0 k s acc (st : Int) (i : Int)) (acc ++ (splC (((bytesOf s).take i).drop st) ((bytesOf s).drop i)).map strOfNums) := by
    intro n
    induction n using Nat.strongRecOn with
    | _ n ih =>
      intro i st acc hn hst hi hac
      have hw1 : wrap64 ((i : Int) + 1) = ((i + 1 : Nat) : Int) := by rw [wrap_id (by omega) (by omega)]; rfl
      have hw2 : wrap64 ((i : Int) + 2) = ((i + 2 : Nat) : Int) := by rw [wrap_id (by omega) (by omega)]; rfl
      have hw11 : wrap64 (((i + 1 : Nat) : Int) + 1) = ((i + 2 : Nat) : Int) := by rw [wrap_id (by omega) (by omega)]; rfl
      have a1 : (i : Int) ≤ (s.size : Int) := by omega
      have a3 : (0 : Int) ≤ (st : Int) := by omega
      have a4 : (st : Int) ≤ (i : Int) := by omega
      have a5 : acc.length < 8796093022208 := by omega
      have a7 : (0 : Int) ≤ (i : Int) := by omega
      have a8 : (0 : Int) ≤ ((i + 1 : Nat) : Int) := by omega
      have a9 : (st : Int) ≤ (s.size : Int) := by omega
      have e : s.extract st i = strOfNums (((bytesOf s).take i).drop st) := by rw [← bytesOf_extract, strOfNums_bytesOf]
      apply ev_succ
      simp only [spec_l3Lines.l0, if_pos a1, hw1, hw2, hw11, Int.toNat_natCast]
      by_cases q : i = s.size
      · subst q
        have b1 : ¬ ((s.size + 1 : Nat) : Int) ≤ (s.size : Int) := by omega
        simp only [if_true, if_pos a3, if_pos a4, if_pos a5]
        apply ev_succ
        simp only [spec_l3Lines.l0, if_neg b1]
        have hnil : (bytesOf s).drop s.size = [] := List.drop_eq_nil_of_le (by rw [bytesOf_length]; exact Nat.le_refl _)
        rw [hnil, splC, e]
        exact Ev.now _
      · have hlt : i < s.size := by omega
        have hlb : i < (bytesOf s).length := by rw [bytesOf_length]; exact hlt
        have hd : (bytesOf s).drop i = (bytesOf s)[i] :: (bytesOf s).drop (i + 1) := List.drop_eq_getElem_cons hlb
        have hb := bt_at' hd
        have hsn := take_snocC hd hst
        simp only [if_neg (show ¬ (i : Int) = (s.size : Int) by omega)]
        have next : ∀ c, bt s (i : Int) = c → (¬ (c = 13 ∧ ∃ r, (bytesOf s).drop (i + 1) = 10 :: r)) → Ev (fun k => spec_l3Lines.l0 k s acc (st : Int) ((i + 1 : Nat) : Int)) (acc ++ (splC (((bytesOf s).take i).drop st) ((bytesOf s).drop i)).map strOfNums) := by
          intro c hc hno
          rw [hb] at hc
          have := ih (n - 1) (by omega) (i + 1) st acc (by omega) (by omega) (by omega) (by omega)
          rw [hsn] at this
          rw [hd]
          have e2 : splC (((bytesOf s).take i).drop st) ((bytesOf s)[i] :: (bytesOf s).drop (i + 1)) = splC (((bytesOf s).take i).drop st ++ [(bytesOf s)[i]]) ((bytesOf s).drop (i + 1)) := by
            cases hr : (bytesOf s).drop (i + 1) with
            | nil => rw [splC, splC]
            | cons d t => rw [splC, if_neg (fun hq => hno ⟨hc ▸ hq.1, t, by rw [hr, hq.2]⟩)]
          rw [e2]; exact this
        refine ev_ite (fun q1 => ?_) (fun q1 => ?_)
        · simp only [if_pos a7, if_pos (show (i : Int) < (s.size : Int) by omega)]
          refine ev_ite (fun q2 => ?_) (fun q2 => ?_)
          · have hlb2 : i + 1 < (bytesOf s).length := by rw [bytesOf_length]; omega
            have hd2 : (bytesOf s).drop (i + 1) = (bytesOf s)[i + 1] :: (bytesOf s).drop (i + 1 + 1) := List.drop_eq_getElem_cons hlb2
            have hb2 := bt_at' hd2
            simp only [if_pos a8]
            refine ev_ite (fun q3 => ?_) (fun q3 => ?_)
            · simp only [if_pos a3, if_pos a4, if_pos a5]
              have := ih (n - 2) (by omega) (i + 2) (i + 2) (acc ++ [s.extract st i]) (by omega) (Nat.le_refl _) (by omega) (by simp; omega)
              have e3 : ((bytesOf s).take (i + 2)).drop (i + 2) = [] := List.drop_eq_nil_of_le (by rw [List.length_take]; exact Nat.min_le_left _ _)
              rw [e3, e] at this
              rw [hd, hd2]
              rw [hb] at q2
              rw [hb2] at q3
              rw [splC, if_pos ⟨q2, q3⟩, e]
              simpa using this
            · refine next _ rfl (fun hq => q3 ?_)
              obtain ⟨_, r, hr⟩ := hq
              rw [hb2, List.cons.inj (hd2.symm.trans hr) |>.1]
          · exact next _ rfl (fun hq => q2 hq.1)
        · refine next _ rfl (fun hq => ?_)
          obtain ⟨_, r, hr⟩ := hq
          have := congrArg List.length hr
          rw [List.length_drop, bytesOf_length, List.length_cons] at this
          omega
  have := key s.size 0 0 [] (by omega) (Nat.le_refl _) (Nat.zero_le _) (Nat.le_refl _)
  unfold spec_l3Lines.f linesC
  simpa using this
theorem spec_Lower_ev (s : ByteArray) (hs : s.size ≤ 4194304) : Ev (fun k => spec_Lower.f k s) (lower s) := by
  have := str_loop_st s (fun i (x : List Int) k => spec_Lower.l0 k s x (i : Int)) (fun i x r => strOfNums (x ++ lowL r)) (fun i x _ => x.length ≤ i) ?_ ?_ (by omega) 0 [] (by simp)
  · have h2 : Ev (fun k => spec_Lower.l0 k s [] 0) (lower s) := by simpa [lower] using this
    exact h2
  · intro i x _ hi
    apply ev_succ; simp only [spec_Lower.l0, if_neg (show ¬ (i : Int) < s.size by omega)]
    simpa [lowL] using Ev.now _
  · intro i x c r hx h hb hi hw hw1 ih
    have hc := bytesOf_range s c (List.mem_of_mem_drop (by rw [h]; simp))
    apply ev_succ
    simp only [spec_Lower.l0, if_pos (show (i : Int) < s.size by omega), if_pos (show (0 : Int) ≤ i by omega), hb, l1Large_eq c hw, Option.bind_some, hw1, if_pos (show x.length < 140737488355328 by omega)]
    have fin := ih (x ++ [lowC c]) (by simp; omega)
    simp only [List.append_assoc, List.cons_append, List.nil_append] at fin
    refine ev_ite (fun q => ?_) (fun q => ?_)
    · rw [lowC_mod hc q]; exact fin
    · rw [show c = lowC c by unfold lowC; rw [if_neg q]]
      have : lowC (lowC c) = lowC c := by rw [show lowC c = c by unfold lowC; rw [if_neg q]]; unfold lowC; rw [if_neg q]
      simpa [lowL, this] using fin

/-! how the reference reads a request: the same as the program -/
theorem ev_det {α : Type} {g : Nat → Option α} {a b : α} (h : Ev g a) (k : Ev g b) : a = b := by
  obtain ⟨n, hn⟩ := h
  obtain ⟨m, hm⟩ := k
  have h1 := hn (n + m) (by omega)
  have h2 := hm (n + m) (by omega)
  rw [h1] at h2
  exact Option.some.inj h2
theorem least_l1 (x0 x1 : List Int) (h0 : x0.length ≤ 1099511627776) (i : Nat) (hi : i < x1.length) (hl : x1.length ≤ 100) (R : Int) (hR : Ev (fun k => spec_l3Least.l0 k x0 x1 ((i + 1 : Nat) : Int)) R) :
    ∀ (n j : Nat), x0.length - j = n → j ≤ x0.length → Ev (fun k => spec_l3Least.l1 k x0 x1 (i : Int) (j : Int)) (if rd x1 (i : Int) ∈ x0.drop j then rd x1 (i : Int) else R) := by
  have hw : wrap64 ((i : Int) + 1) = ((i + 1 : Nat) : Int) := by rw [wrap_id (by omega) (by omega)]; rfl
  intro n
  induction n with
  | zero =>
    intro j hn hj
    rw [List.drop_eq_nil_of_le (by omega), if_neg (by simp)]
    apply ev_succ
    simp only [spec_l3Least.l1, if_neg (show ¬ (j : Int) < (x0.length : Int) by omega), hw]
    exact hR
  | succ n ih =>
    intro j hn hj
    have hjl : j < x0.length := by omega
    have hd : x0.drop j = x0[j] :: x0.drop (j + 1) := List.drop_eq_getElem_cons hjl
    obtain ⟨hr, _, _⟩ := rd_drop hd
    have hw2 : wrap64 ((j : Int) + 1) = ((j + 1 : Nat) : Int) := by rw [wrap_id (by omega) (by omega)]; rfl
    have ih' := ih (j + 1) (by omega) (by omega)
    apply ev_succ
    simp only [spec_l3Least.l1, if_pos (show (j : Int) < (x0.length : Int) by omega), if_pos (show (0 : Int) ≤ (j : Int) by omega), if_pos (show (0 : Int) ≤ (i : Int) by omega), if_pos (show (i : Int) < (x1.length : Int) by omega), hw2, hr]
    rw [hd]
    by_cases q : x0[j] = rd x1 (i : Int)
    · simp only [if_pos q]
      rw [if_pos (by rw [← q]; exact List.mem_cons_self)]
      exact Ev.now _
    · simp only [if_neg q]
      by_cases q1 : rd x1 (i : Int) ∈ x0.drop (j + 1)
      · rw [if_pos q1] at ih'
        rw [if_pos (List.mem_cons_of_mem _ q1)]; exact ih'
      · rw [if_neg q1] at ih'
        rw [if_neg (fun h => by rcases List.mem_cons.1 h with h | h; exact q h.symm; exact q1 h)]; exact ih'
theorem least_ev (co : List Int) (h0 : co.length ≤ 1099511627776) : Ev (fun k => spec_l3Least.f k co [431, 501, 413]) (leastF co) := by
  have e3 : Ev (fun k => spec_l3Least.l0 k co [431, 501, 413] ((2 + 1 : Nat) : Int)) 0 := by
    apply ev_succ; simp only [spec_l3Least.l0]; exact Ev.now _
  have st : ∀ (i : Nat) (R : Int), i < 3 → Ev (fun k => spec_l3Least.l0 k co [431, 501, 413] ((i + 1 : Nat) : Int)) R → Ev (fun k => spec_l3Least.l0 k co [431, 501, 413] (i : Int)) (if rd [431, 501, 413] (i : Int) ∈ co then rd [431, 501, 413] (i : Int) else R) := by
    intro i R hi hR
    have := least_l1 co [431, 501, 413] h0 i hi (by decide) R hR _ 0 rfl (Nat.zero_le _)
    rw [List.drop_zero] at this
    apply ev_succ
    simp only [spec_l3Least.l0, if_pos (show (i : Int) < (([431, 501, 413] : List Int).length : Int) by simp only [List.length_cons, List.length_nil]; omega)]
    exact this
  exact st 0 _ (by decide) (st 1 _ (by decide) (st 2 _ (by decide) e3))
abbrev FrO := Int × ByteArray × ByteArray × List S113 × ByteArray × Int × Int × List Int
def flatF (r : FrSt × Int) : FrO := (r.2, r.1)
theorem l3Head_ev (s m p : ByteArray) (hs : List S113) (b : ByteArray) (sz td : Int) (co : List Int) (hz : s.size ≤ 4194304) (hl : hs.length ≤ 4194305) (ht : 0 ≤ td) (ht2 : td ≤ 1099511627776) (hc : co.length ≤ 1099511627776) :
    Ev (fun k => spec_l3Head.f k m p hs b sz td co s) (flatF (headF s (m, p, hs, b, sz, td, co))) := by
  have hlen := drC_len 58 (bytesOf s)
  rw [bytesOf_length] at hlen
  have hap := tk_dr 58 (bytesOf s)
  have hno := tkC_no 58 (bytesOf s)
  have hw1 : wrap64 (td + 1) = td + 1 := wrap_id (by omega) (by omega)
  have sl : (nameS s).size ≤ 4194304 := nameS_size s _ hz
  have st : (valS s).size ≤ 4194304 := valS_size s _ hz
  have jbad : Ev (fun k => spec_l3Head.j2 k true m p hs b sz td co (nameS s) (valS s)) (400, m, p, hs, b, sz, td, co) := by
    apply ev_succ; simp only [spec_l3Head.j2, if_true]; exact Ev.now _
  have hCL : ((nameS s).toList = ([99, 111, 110, 116, 101, 110, 116, 45, 108, 101, 110, 103, 116, 104] : List UInt8)) ↔ bytesOf (nameS s) = CLb := lit_iff _ _
  have hTE : ((nameS s).toList = ([116, 114, 97, 110, 115, 102, 101, 114, 45, 101, 110, 99, 111, 100, 105, 110, 103] : List UInt8)) ↔ bytesOf (nameS s) = TEb := lit_iff _ _
  have hCH : ((lower (valS s)).toList = ([99, 104, 117, 110, 107, 101, 100] : List UInt8)) ↔ bytesOf (lower (valS s)) = CHb := lit_iff _ _
  have jgood : goodLine s → Ev (fun k => spec_l3Head.j2 k false m p hs b sz td co (nameS s) (valS s)) (flatF (headF s (m, p, hs, b, sz, td, co))) := by
    intro q
    unfold headF
    simp only [if_pos q]
    apply ev_succ
    simp only [spec_l3Head.j2, Bool.false_eq_true, if_false, hw1]
    by_cases q1 : bytesOf (nameS s) = CLb
    · simp only [if_pos q1, if_pos (hCL.2 q1)]
      refine Ev.bind (spec_ParseNum_ev (valS s) 9999999 (by omega)) ?_
      by_cases q2 : (pnum (valS s) 9999999).2 = true
      · simp only [if_pos q2]; exact Ev.now _
      · simp only [if_neg q2]; exact Ev.now _
    · simp only [if_neg q1, if_neg (fun h => q1 (hCL.1 h))]
      by_cases q2 : bytesOf (nameS s) = TEb
      · simp only [if_pos q2, if_pos (hTE.2 q2)]
        refine Ev.bind (spec_Lower_ev (valS s) (by omega)) ?_
        by_cases q3 : bytesOf (lower (valS s)) = CHb
        · simp only [if_pos q3, if_pos (hCH.2 q3)]; exact Ev.now _
        · simp only [if_neg q3, if_neg (fun h => q3 (hCH.1 h)), if_pos (show co.length < 17592186044416 by omega)]; exact Ev.now _
      · simp only [if_neg q2, if_neg (fun h => q2 (hTE.1 h)), if_pos (show hs.length < 4398046511104 by omega), Option.bind_some, List.length_append, List.length_cons, List.length_nil]
        by_cases q3 : 8 < hs.length + 1
        · simp only [if_pos q3, if_pos (show (((hs.length + (0 + 1) : Nat)) : Int) > 8 by omega), if_pos (show co.length < 17592186044416 by omega)]; exact Ev.now _
        · simp only [if_neg q3, if_neg (show ¬ (((hs.length + (0 + 1) : Nat)) : Int) > 8 by omega)]; exact Ev.now _
  have hj1 : Ev (fun k => spec_l3Head.j1 k s ((tkC 58 (bytesOf s)).length : Int) m p hs b sz td co) (flatF (headF s (m, p, hs, b, sz, td, co))) := by
    apply ev_succ
    simp only [spec_l3Head.j1]
    by_cases q0 : drC 58 (bytesOf s) = []
    · rw [q0, List.length_nil] at hlen
      simp only [if_pos (show ((tkC 58 (bytesOf s)).length : Int) = (s.size : Int) by omega)]
      unfold headF
      simp only [if_neg (show ¬ goodLine s from fun h => h.1 q0)]
      exact Ev.now _
    · have hpos : 0 < (drC 58 (bytesOf s)).length := by
        cases h : drC 58 (bytesOf s) with
        | nil => exact absurd h q0
        | cons _ _ => simp
      have hw2 : wrap64 (((tkC 58 (bytesOf s)).length : Int) + 1) = (((tkC 58 (bytesOf s)).length + 1 : Nat) : Int) := by rw [wrap_id (by omega) (by omega)]; rfl
      have e1 : s.extract 0 (tkC 58 (bytesOf s)).length = strOfNums (tkC 58 (bytesOf s)) := by
        rw [← strOfNums_bytesOf (s.extract 0 _), bytesOf_extract, List.drop_zero]
        congr 1
        rw [← hap]
        have : (tkC 58 (tkC 58 (bytesOf s) ++ drC 58 (bytesOf s))) = tkC 58 (bytesOf s) := by rw [hap]
        rw [this, List.take_left]
      have e2 : s.extract ((tkC 58 (bytesOf s)).length + 1) s.size = strOfNums (drC 58 (bytesOf s)).tail := by
        rw [← strOfNums_bytesOf (s.extract _ _), bytesOf_extract, List.take_of_length_le (by rw [bytesOf_length]; exact Nat.le_refl _)]
        congr 1
        have h9 : (bytesOf s).drop ((tkC 58 (bytesOf s)).length + 1) = (tkC 58 (bytesOf s) ++ drC 58 (bytesOf s)).drop ((tkC 58 (bytesOf s)).length + 1) := by rw [hap]
        rw [h9, ← List.drop_drop, List.drop_left, List.drop_one]
      simp only [if_neg (show ¬ ((tkC 58 (bytesOf s)).length : Int) = (s.size : Int) by omega), if_pos (show (0 : Int) ≤ ((tkC 58 (bytesOf s)).length : Int) by omega), if_pos (show ((tkC 58 (bytesOf s)).length : Int) ≤ (s.size : Int) by omega), hw2, if_pos (show (0 : Int) ≤ (((tkC 58 (bytesOf s)).length + 1 : Nat) : Int) by omega), if_pos (show (((tkC 58 (bytesOf s)).length + 1 : Nat) : Int) ≤ (s.size : Int) by omega), Int.toNat_natCast, e1, e2]
      have za : (strOfNums (tkC 58 (bytesOf s))).size ≤ 4194304 := by rw [strOfNums_size]; omega
      have zv : (strOfNums (drC 58 (bytesOf s)).tail).size ≤ 4194304 := by rw [strOfNums_size, List.length_tail]; omega
      have h1 := spec_Lower_ev _ za
      have h2 := spec_Trim_ev _ zv
      have el : lower (strOfNums (tkC 58 (bytesOf s))) = nameS s := by unfold nameS; rfl
      have et : trim (strOfNums (drC 58 (bytesOf s)).tail) = valS s := by unfold valS; rfl
      rw [el] at h1
      rw [et] at h2
      refine Ev.bind h1 (Ev.bind h2 ?_)
      refine Ev.bind (spec_SmallName_ev (nameS s) (by omega)) ?_
      by_cases q1 : smallName (nameS s) = true
      · simp only [if_pos q1]
        refine Ev.bind (spec_l3Val_ev (valS s) st) ?_
        by_cases q2 : valOk (valS s) = true
        · rw [q2]; exact jgood ⟨q0, q1, q2⟩
        · rw [Bool.not_eq_true _ |>.mp q2]
          unfold headF
          simp only [if_neg (show ¬ goodLine s from fun h => q2 h.2.2)]
          exact jbad
      · simp only [if_neg q1]
        unfold headF
        simp only [if_neg (show ¬ goodLine s from fun h => q1 h.2.1)]
        exact jbad
  have key : ∀ (n i : Nat), (tkC 58 (bytesOf s)).length - i = n → i ≤ (tkC 58 (bytesOf s)).length → Ev (fun k => spec_l3Head.l0 k s (i : Int) m p hs b sz td co) (flatF (headF s (m, p, hs, b, sz, td, co))) := by
    intro n
    induction n with
    | zero =>
      intro i hn hi
      have hi' : i = (tkC 58 (bytesOf s)).length := by omega
      apply ev_succ
      simp only [spec_l3Head.l0]
      by_cases q : (i : Int) < (s.size : Int)
      · have hd : (bytesOf s).drop i = drC 58 (bytesOf s) := by
          have h9 : (bytesOf s).drop i = (tkC 58 (bytesOf s) ++ drC 58 (bytesOf s)).drop i := by rw [hap]
          rw [h9, hi', List.drop_left]
        cases h : drC 58 (bytesOf s) with
        | nil => rw [h, List.length_nil] at hlen; omega
        | cons c r =>
          have hc58 := drC_head h
          subst hc58
          have hb := (bt_drop (hd.trans h)).1
          simp only [if_pos q, if_pos (show (0 : Int) ≤ (i : Int) by omega), hb, if_true]
          rw [hi']; exact hj1
      · simp only [if_neg q]
        rw [hi']; exact hj1
    | succ n ih =>
      intro i hn hi
      have ih' := ih (i + 1) (by omega) (by omega)
      have hil : i < (bytesOf s).length := by rw [bytesOf_length]; omega
      have hd : (bytesOf s).drop i = (bytesOf s)[i] :: (bytesOf s).drop (i + 1) := List.drop_eq_getElem_cons hil
      have hb := (bt_drop hd).1
      have hne : (bytesOf s)[i] ≠ 58 := by
        intro e
        have hit : i < (tkC 58 (bytesOf s)).length := by omega
        have h9 : (tkC 58 (bytesOf s) ++ drC 58 (bytesOf s))[i]? = some 58 := by rw [hap, List.getElem?_eq_getElem hil, e]
        rw [List.getElem?_append_left hit] at h9
        exact hno (List.mem_of_getElem? h9)
      have hw2 : wrap64 ((i : Int) + 1) = ((i + 1 : Nat) : Int) := by clear ht ht2 hc hl hw1 sl st hlen hn hb hne hd; rw [bytesOf_length] at hil; rw [wrap_id (by omega) (by omega)]; rfl
      have his : (i : Int) < (s.size : Int) := by rw [bytesOf_length] at hil; exact Int.ofNat_lt.2 hil
      apply ev_succ
      simp only [spec_l3Head.l0, if_pos his, if_pos (Int.natCast_nonneg i), hw2]
      simp only [hb, if_neg hne]
      exact ih'
  exact key _ 0 rfl (Nat.zero_le _)
def FrB (n : Nat) (f : FrSt) : Prop := f.2.2.1.length ≤ n ∧ 0 ≤ f.2.2.2.2.2.1 ∧ f.2.2.2.2.2.1 ≤ n ∧ f.2.2.2.2.2.2.length ≤ n
theorem headF_B (s : ByteArray) (n : Nat) (f : FrSt) (h : FrB n f) : FrB (n + 1) (headF s f).1 := by
  obtain ⟨m, p, hs, b, sz, td, co⟩ := f
  obtain ⟨h1, h2, h3, h4⟩ := h
  simp only [] at h1 h2 h3 h4
  unfold headF
  simp only []
  split
  · split
    · exact ⟨by simp only []; omega, by simp only []; omega, by simp only []; omega, by simp only []; omega⟩
    · split
      · refine ⟨by simp only []; omega, by simp only []; omega, by simp only []; omega, ?_⟩
        simp only []
        split
        · omega
        · rw [List.length_append, List.length_singleton]; omega
      · refine ⟨by simp only [List.length_append, List.length_singleton]; omega, by simp only []; omega, by simp only []; omega, ?_⟩
        simp only []
        split
        · rw [List.length_append, List.length_singleton]; omega
        · omega
  · exact ⟨by simp only []; omega, by simp only []; omega, by simp only []; omega, by simp only []; omega⟩
theorem fcode_nil (m p : ByteArray) (hs : List S113) (b : ByteArray) (sz td : Int) (co : List Int) : fcode (headsF [] (m, p, hs, b, sz, td, co)) = if 1 < td then 400 else leastF (if 200 < sz then co ++ [413] else co) := rfl
theorem l3Read_l0 (ls : List ByteArray) (hx : ∀ x ∈ ls, x.size ≤ 4194304) (hn : ls.length ≤ 4194305) : ∀ (n i : Nat) (f : FrSt), ls.length - i = n → i ≤ ls.length → FrB i f →
    ∃ r : FrO, Ev (fun k => spec_l3Read.l0 k ls (i : Int) f.1 f.2.1 f.2.2.1 f.2.2.2.1 f.2.2.2.2.1 f.2.2.2.2.2.1 f.2.2.2.2.2.2) r ∧ r.1 = fcode (headsF (ls.drop i) f) ∧ (r.1 = 0 → r.2.1 = (headsF (ls.drop i) f).1.1 ∧ r.2.2.1 = (headsF (ls.drop i) f).1.2.1 ∧ r.2.2.2.1 = (headsF (ls.drop i) f).1.2.2.1 ∧ r.2.2.2.2.2.1 = (headsF (ls.drop i) f).1.2.2.2.2.1) := by
  intro n
  induction n with
  | zero =>
    intro i f hn1 hi hB
    obtain ⟨m, p, hs, b, sz, td, co⟩ := f
    obtain ⟨h1, h2, h3, h4⟩ := hB
    simp only [] at h1 h2 h3 h4
    rw [List.drop_eq_nil_of_le (by omega), fcode_nil]
    by_cases q : 1 < td
    · rw [if_pos q]
      refine ⟨(400, m, p, hs, b, sz, td, co), ?_, rfl, fun h => absurd (show (400 : Int) = 0 from h) (by decide)⟩
      apply ev_succ
      simp only [spec_l3Read.l0, if_neg (show ¬ (i : Int) < (ls.length : Int) by omega), if_pos (show td > 1 from q)]
      exact Ev.now _
    · rw [if_neg q]
      by_cases q1 : 200 < sz
      · rw [if_pos q1]
        refine ⟨(leastF (co ++ [413]), m, p, hs, b, sz, td, co ++ [413]), ?_, rfl, fun _ => ⟨rfl, rfl, rfl, rfl⟩⟩
        apply ev_succ
        simp only [spec_l3Read.l0, if_neg (show ¬ (i : Int) < (ls.length : Int) by omega), if_neg (show ¬ td > 1 from q), if_pos (show sz > 200 from q1), if_pos (show co.length < 17592186044416 by omega), Option.bind_some]
        exact Ev.bind (least_ev (co ++ [413]) (by rw [List.length_append, List.length_singleton]; omega)) (Ev.now _)
      · rw [if_neg q1]
        refine ⟨(leastF co, m, p, hs, b, sz, td, co), ?_, rfl, fun _ => ⟨rfl, rfl, rfl, rfl⟩⟩
        apply ev_succ
        simp only [spec_l3Read.l0, if_neg (show ¬ (i : Int) < (ls.length : Int) by omega), if_neg (show ¬ td > 1 from q), if_neg (show ¬ sz > 200 from q1)]
        exact Ev.bind (least_ev co (by omega)) (Ev.now _)
  | succ n ih =>
    intro i f hn1 hi hB
    have hil : i < ls.length := by omega
    have hd : ls.drop i = ls[i] :: ls.drop (i + 1) := List.drop_eq_getElem_cons hil
    have hrd : rdOf ByteArray.empty ls (i : Int) = ls[i] := by rw [rdOf_at, List.getD_eq_getElem?_getD, List.getElem?_eq_getElem hil]; rfl
    have hsz := hx ls[i] (List.getElem_mem _)
    have hB' := headF_B ls[i] i f hB
    have hw : wrap64 ((i : Int) + 1) = ((i + 1 : Nat) : Int) := by rw [wrap_id (by omega) (by omega)]; rfl
    have he : Ev (fun k => spec_l3Head.f k f.1 f.2.1 f.2.2.1 f.2.2.2.1 f.2.2.2.2.1 f.2.2.2.2.2.1 f.2.2.2.2.2.2 ls[i]) (flatF (headF ls[i] f)) := by
      obtain ⟨m, p, hs, b, sz, td, co⟩ := f
      obtain ⟨h1, h2, h3, h4⟩ := hB
      simp only [] at h1 h2 h3 h4
      exact l3Head_ev ls[i] m p hs b sz td co hsz (by omega) h2 (by omega) (by omega)
    rw [hd, headsF]
    by_cases q : (headF ls[i] f).2 = 0
    · rw [if_pos q]
      obtain ⟨r, hr, h2, h3⟩ := ih (i + 1) (headF ls[i] f).1 (by omega) (by omega) hB'
      refine ⟨r, ?_, h2, h3⟩
      apply ev_succ
      simp only [spec_l3Read.l0, if_pos (show (i : Int) < (ls.length : Int) by omega), if_pos (show (0 : Int) ≤ (i : Int) by omega), hrd, hw]
      refine Ev.bind he ?_
      exact Ev.congr (fun k => if_pos q) hr
    · rw [if_neg q]
      refine ⟨flatF (headF ls[i] f), ?_, (if_neg q).symm, fun h => absurd h q⟩
      apply ev_succ
      simp only [spec_l3Read.l0, if_pos (show (i : Int) < (ls.length : Int) by omega), if_pos (show (0 : Int) ≤ (i : Int) by omega), hrd]
      refine Ev.bind he ?_
      exact Ev.congr (fun k => if_neg q) (Ev.now _)
def firstOk (ps : List ByteArray) : Prop := ps.length = 3 ∧ bytesOf (ps.getD 2 ByteArray.empty) = H11b ∧ (methodOk (ps.getD 0 ByteArray.empty) && targetOk (ps.getD 1 ByteArray.empty)) = true
theorem l3First_ev (s m p : ByteArray) (hs : List S113) (b : ByteArray) (sz td : Int) (co : List Int) (hz : s.size ≤ 4194304) :
    ∃ r : Bool × ByteArray × ByteArray × List S113 × ByteArray × Int × Int × List Int, Ev (fun k => spec_l3First.f k m p hs b sz td co s) r ∧ (r.1 = true ↔ firstOk (partsG 32 (bytesOf s))) ∧ (r.1 = true → r.2 = ((partsG 32 (bytesOf s)).getD 0 ByteArray.empty, (partsG 32 (bytesOf s)).getD 1 ByteArray.empty, hs, b, sz, td, co)) := by
  have hps := partsG_size 32 (bytesOf s)
  rw [bytesOf_length] at hps
  have hsp := spec_l2Split_evG 32 s hz
  generalize partsG 32 (bytesOf s) = ps at hps hsp
  have g0 : rdOf ByteArray.empty ps 0 = ps.getD 0 ByteArray.empty := rdOf_at ps 0
  have g1 : rdOf ByteArray.empty ps 1 = ps.getD 1 ByteArray.empty := rdOf_at ps 1
  have g2 : rdOf ByteArray.empty ps 2 = ps.getD 2 ByteArray.empty := rdOf_at ps 2
  have hlit : ((ps.getD 2 ByteArray.empty).toList = ([72, 84, 84, 80, 47, 49, 46, 49] : List UInt8)) ↔ bytesOf (ps.getD 2 ByteArray.empty) = H11b := lit_iff _ _
  have jbad : Ev (fun k => spec_l3First.j0 k ps true m p hs b sz td co) (false, m, p, hs, b, sz, td, co) := by
    apply ev_succ; simp only [spec_l3First.j0, if_true]; exact Ev.now _
  unfold spec_l3First.f
  by_cases q0 : ps.length = 3
  · by_cases q1 : bytesOf (ps.getD 2 ByteArray.empty) = H11b
    · have hm := spec_l3Method_ev (ps.getD 0 ByteArray.empty) (Nat.le_trans (hps 0) hz)
      have ht := spec_l3Target_ev (ps.getD 1 ByteArray.empty) (Nat.le_trans (hps 1) hz)
      have hb1 : ((ps.getD 2 ByteArray.empty).toList != ([72, 84, 84, 80, 47, 49, 46, 49] : List UInt8)) = false := by rw [bne_eq_false_iff_eq]; exact hlit.2 q1
      by_cases q2 : methodOk (ps.getD 0 ByteArray.empty) = true
      · refine ⟨(targetOk (ps.getD 1 ByteArray.empty), ps.getD 0 ByteArray.empty, ps.getD 1 ByteArray.empty, hs, b, sz, td, co), Ev.bind hsp ?_, ?_, fun _ => rfl⟩
        · simp only [if_pos (show (ps.length : Int) = 3 by omega), if_pos (show (2 : Int) < (ps.length : Int) by omega), g2, hb1]
          apply ev_succ
          simp only [spec_l3First.j0, Bool.false_eq_true, if_false, if_pos (show (0 : Int) < (ps.length : Int) by omega), if_pos (show (1 : Int) < (ps.length : Int) by omega), g0, g1]
          refine Ev.bind hm ?_
          simp only [if_pos q2]
          exact Ev.bind ht (Ev.now _)
        · unfold firstOk
          rw [q2, Bool.true_and]
          exact ⟨fun h => ⟨q0, q1, h⟩, fun h => h.2.2⟩
      · refine ⟨(false, ps.getD 0 ByteArray.empty, ps.getD 1 ByteArray.empty, hs, b, sz, td, co), Ev.bind hsp ?_, ⟨fun h => Bool.noConfusion h, fun h => ?_⟩, fun h => Bool.noConfusion h⟩
        · simp only [if_pos (show (ps.length : Int) = 3 by omega), if_pos (show (2 : Int) < (ps.length : Int) by omega), g2, hb1]
          apply ev_succ
          simp only [spec_l3First.j0, Bool.false_eq_true, if_false, if_pos (show (0 : Int) < (ps.length : Int) by omega), if_pos (show (1 : Int) < (ps.length : Int) by omega), g0, g1]
          refine Ev.bind hm ?_
          simp only [if_neg q2]
          exact Ev.now _
        · have := h.2.2
          rw [Bool.and_eq_true] at this
          exact absurd this.1 q2
    · have hb1 : ((ps.getD 2 ByteArray.empty).toList != ([72, 84, 84, 80, 47, 49, 46, 49] : List UInt8)) = true := by rw [bne_iff_ne]; exact fun h => q1 (hlit.1 h)
      refine ⟨(false, m, p, hs, b, sz, td, co), Ev.bind hsp ?_, ⟨fun h => Bool.noConfusion h, fun h => absurd h.2.1 q1⟩, fun h => Bool.noConfusion h⟩
      simp only [if_pos (show (ps.length : Int) = 3 by omega), if_pos (show (2 : Int) < (ps.length : Int) by omega), g2, hb1]
      exact jbad
  · refine ⟨(false, m, p, hs, b, sz, td, co), Ev.bind hsp ?_, ⟨fun h => Bool.noConfusion h, fun h => absurd h.1 q0⟩, fun h => Bool.noConfusion h⟩
    simp only [if_neg (show ¬ (ps.length : Int) = 3 by omega)]
    exact jbad
theorem l3Read_ev (l : List Int) (hl : l.length ≤ 4194303) (hr : ∀ x ∈ l, 0 ≤ x ∧ x < 256) :
    ∃ r : FrO, Ev (fun k => spec_l3Read.f k (⟨#[]⟩ : ByteArray) (⟨#[]⟩ : ByteArray) ([] : List S113) (⟨#[]⟩ : ByteArray) 0 0 ([] : List Int) (strOfNums l)) r ∧ r.1 = (rhS l).2 ∧ (r.1 = 0 → r.2.1 = (rhS l).1.1 ∧ r.2.2.1 = (rhS l).1.2.1 ∧ r.2.2.2.1 = stHs (rhS l).1 ∧ (stCh (rhS l).1 = true → r.2.2.2.2.2.1 = -1) ∧ (stCh (rhS l).1 = false → r.2.2.2.2.2.1 = stSz (rhS l).1)) := by
  have hb := bytesOf_strOfNums l hr
  have hln := linesC_len l
  have hsz := linesC_size hr
  have hlines := spec_l3Lines_ev (strOfNums l) (by rw [strOfNums_size]; omega)
  rw [hb] at hlines
  unfold spec_l3Read.f rhS
  generalize linesC l = ls at hln hsz hlines
  have h00 : rdOf ByteArray.empty ls 0 = ls.getD 0 ByteArray.empty := rdOf_at ls 0
  have hg : (ls.getD 0 ByteArray.empty).size ≤ 4194304 := by
    rw [List.getD_eq_getElem?_getD, List.getElem?_eq_getElem (show 0 < ls.length by omega)]
    have := hsz ls[0] (List.getElem_mem _)
    show ls[0].size ≤ _
    omega
  obtain ⟨r1, hr1, ho1, hv1⟩ := l3First_ev (ls.getD 0 ByteArray.empty) (⟨#[]⟩ : ByteArray) (⟨#[]⟩ : ByteArray) ([] : List S113) (⟨#[]⟩ : ByteArray) 0 0 ([] : List Int) hg
  generalize partsG 32 (bytesOf (ls.getD 0 ByteArray.empty)) = ps at ho1 hv1
  by_cases q : r1.1 = true
  · have hf := ho1.1 q
    have hv := hv1 q
    have hx : ∀ x ∈ ls, x.size ≤ 4194304 := fun x hx => by have := hsz x hx; omega
    obtain ⟨r, hr0, hc, hd⟩ := l3Read_l0 ls hx (by omega) _ 1 (ps.getD 0 ByteArray.empty, ps.getD 1 ByteArray.empty, [], ⟨#[]⟩, 0, 0, []) rfl (by omega) ⟨Nat.zero_le _, Int.le_refl 0, by simp only []; omega, Nat.zero_le _⟩
    obtain ⟨k1, k2⟩ := fcode_eq (ls.drop 1) _ _ (FrT_start (ps.getD 0 ByteArray.empty) (ps.getD 1 ByteArray.empty))
    rw [if_pos (show ps.length = 3 ∧ bytesOf (ps.getD 2 ByteArray.empty) = H11b ∧ (methodOk (ps.getD 0 ByteArray.empty) && targetOk (ps.getD 1 ByteArray.empty)) = true from hf)]
    refine ⟨r, Ev.bind hlines ?_, hc.trans k1, fun h => ?_⟩
    · simp only [if_pos (show (0 : Int) < (ls.length : Int) by omega), h00]
      refine Ev.bind hr1 ?_
      simp only [if_pos q]
      rw [hv]
      exact hr0
    · obtain ⟨d1, d2, d3, d4⟩ := hd h
      obtain ⟨e1, e2, e3, e4, e5⟩ := k2 (hc.symm.trans h)
      exact ⟨d1.trans e1, d2.trans e2, d3.trans e3, fun h => d4.trans (e4 h), fun h => d4.trans (e5 h)⟩
  · have hf : ¬ firstOk ps := fun h => q (ho1.2 h)
    rw [if_neg (show ¬ (ps.length = 3 ∧ bytesOf (ps.getD 2 ByteArray.empty) = H11b ∧ (methodOk (ps.getD 0 ByteArray.empty) && targetOk (ps.getD 1 ByteArray.empty)) = true) from hf)]
    refine ⟨(400, r1.2), Ev.bind hlines ?_, rfl, fun h => absurd (show (400 : Int) = 0 from h) (by decide)⟩
    simp only [if_pos (show (0 : Int) < (ls.length : Int) by omega), h00]
    refine Ev.bind hr1 ?_
    simp only [if_neg q]
    exact Ev.now _
theorem spec_GetReq_ev (l : List Int) (hl : l.length ≤ 4194303) (hr : ∀ x ∈ l, 0 ≤ x ∧ x < 256) : Ev (fun k => spec_GetReq.f k l) (getQ l) := by
  unfold spec_GetReq.f getQ
  refine Ev.bind (spec_HeadEnd_ev l (by omega) hr) ?_
  have hb := fnd4_bound (l.take 400) 0
  have h4 := fnd4_4 (l.take 400) 0
  rw [List.length_take] at hb h4
  change headEnd l ≤ _ ∧ _ at hb
  change 0 ≤ headEnd l → _ at h4
  by_cases q0 : headEnd l < 0
  · rw [if_pos q0]; simp only [if_pos q0]
    by_cases q1 : 400 < l.length
    · rw [if_pos q1]; simp only [if_neg (show ¬ (l.length : Int) ≤ 400 by omega)]; exact Ev.now _
    · rw [if_neg q1]; simp only [if_pos (show (l.length : Int) ≤ 400 by omega)]; exact Ev.now _
  rw [if_neg q0]; simp only [if_neg q0]
  have h44 : (4 : Int) ≤ headEnd l := by have := (h4 (by omega)).1; change (0 : Int) + 4 ≤ headEnd l at this; omega
  obtain ⟨e, he⟩ : ∃ e : Nat, headEnd l = (e : Int) := ⟨(headEnd l).toNat, by omega⟩
  rw [he] at hb h44
  simp only [he, Int.toNat_natCast]
  clear h4 q0
  have hw : wrap64 ((e : Int) - 4) = ((e - 4 : Nat) : Int) := by rw [wrap_id (by omega) (by omega)]; omega
  simp only [hw, if_pos (show (0 : Int) ≤ ((e - 4 : Nat) : Int) by omega), if_pos (show ((e - 4 : Nat) : Int) ≤ (l.length : Int) by omega), Int.toNat_natCast]
  have hrt : ∀ x ∈ l.take (e - 4), 0 ≤ x ∧ x < 256 := fun x hx => hr x (List.mem_of_mem_take hx)
  have hlt : (l.take (e - 4)).length ≤ 4194303 := by rw [List.length_take]; omega
  obtain ⟨hP, hP2, _⟩ := rhS_P (l.take (e - 4)) hlt hrt
  obtain ⟨r, hrd, hc, hv⟩ := l3Read_ev (l.take (e - 4)) hlt hrt
  generalize rhS (l.take (e - 4)) = R at hP hP2 hc hv
  obtain ⟨⟨m, p, hs, b, co, ch, sz, td, bad⟩, code⟩ := R
  simp only [stHs, stCh, stSz] at hP2 hv ⊢
  have hsz : 0 ≤ sz := hP.2.2.2
  refine Ev.bind hrd ?_
  unfold getC
  by_cases c0 : r.1 = 0
  · obtain ⟨e1, e2, e3, e4, e5⟩ := hv c0
    rw [if_neg (show ¬ code ≠ 0 from fun h => h (hc.symm.trans c0))]
    simp only [if_pos c0, e1, e2, e3]
    cases ch with
    | true =>
      rw [if_pos (show true = true from rfl)]
      have e6 := e4 rfl
      obtain ⟨X, hX1, hX2⟩ := GetChunks_ev l (by omega) hr (e : Int)
      have hg := GetChunks_impl l (by omega) hr e (by omega) (l.length + 1) (by rw [List.length_drop]; omega)
      have hX := ev_det hX1 hg
      simp only [e6, if_pos (show (-1 : Int) < 0 by omega)]
      refine Ev.bind hX2 ?_
      rw [hX]
      by_cases c2 : (chR (l.length + 1) (l.drop e) []).2.2 = 0
      · rw [if_pos c2]
        unfold chV
        simp only [if_pos c2, if_true]
        exact Ev.now _
      · rw [if_neg c2]
        unfold chV
        simp only [if_neg c2]
        exact Ev.now _
    | false =>
      rw [if_neg (show ¬ false = true by decide)]
      have e6 := e5 rfl
      obtain ⟨h200, _⟩ := hP2 (hc.symm.trans c0)
      have hw2 : wrap64 ((l.length : Int) - (e : Int)) = (l.length : Int) - (e : Int) := wrap_id (by omega) (by omega)
      have hw3 : wrap64 ((e : Int) + sz) = ((e + sz.toNat : Nat) : Int) := by rw [wrap_id (by omega) (by omega)]; omega
      simp only [e6, if_neg (show ¬ sz < 0 by omega), hw2, hw3]
      by_cases c2 : l.length < e + sz.toNat
      · rw [if_pos c2]
        simp only [if_pos (show sz > (l.length : Int) - (e : Int) by omega)]
        exact Ev.now _
      · rw [if_neg c2]
        simp only [if_neg (show ¬ sz > (l.length : Int) - (e : Int) by omega), if_pos (show (0 : Int) ≤ (e : Int) by omega), if_pos (show (e : Int) ≤ ((e + sz.toNat : Nat) : Int) by omega), if_pos (show ((e + sz.toNat : Nat) : Int) ≤ (l.length : Int) by omega), Int.toNat_natCast]
        rw [List.drop_take, show e + sz.toNat - e = sz.toNat by omega]
        exact Ev.now _
  · rw [if_pos (show code ≠ 0 from fun h => c0 (hc.trans h))]
    simp only [if_neg c0]
    rw [← show r.1 = code from hc]
    exact Ev.now _

theorem markByteS_l0 : ∀ (n : Nat) (x : List Int) (a : Int) (i : Nat), x.length - i = n → i ≤ x.length → x.length ≤ 8796093022208 → 0 ≤ a → a + n ≤ 1125899906842624 → ∃ y, Ev (fun k => laws_markByteS.l0 k x a (i : Int)) (a + n, y) ∧ y.length = x.length ∧ (∀ j, j < i → y[j]? = x[j]?) ∧ ∀ j, i ≤ j → j < x.length → y[j]? = some ((a + (j - i : Nat)) % 256)
  | 0, x, a, i, hn, hi, hl, h0, h1 => by
    refine ⟨x, ?_, rfl, fun _ _ => rfl, fun j h2 h3 => by omega⟩
    apply ev_succ
    simp only [laws_markByteS.l0, if_neg (show ¬ (i : Int) < x.length by omega)]
    rw [show a + ((0 : Nat) : Int) = a by omega]; exact Ev.now _
  | n + 1, x, a, i, hn, hi, hl, h0, h1 => by
    obtain ⟨y, h2, h3, h4, h5⟩ := markByteS_l0 n (x.set i (a % 256)) (a + 1) (i + 1) (by simp; omega) (by simp; omega) (by simp; omega) (by omega) (by omega)
    refine ⟨y, ?_, by rw [h3]; simp, ?_, ?_⟩
    · apply ev_succ
      simp only [laws_markByteS.l0, if_pos (show (i : Int) < x.length by omega), if_pos (show (0 : Int) ≤ i by omega), Int.toNat_natCast, wrap_id (x := a + 1) (by omega) (by omega), show wrap64 ((i : Int) + 1) = ((i + 1 : Nat) : Int) from by rw [wrap_id (by omega) (by omega)]; omega]
      rw [show a + ((n + 1 : Nat) : Int) = a + 1 + n by omega]; exact h2
    · intro j hj
      rw [h4 j (by omega), List.getElem?_set, if_neg (by omega)]
    · intro j hj hx
      rcases Nat.lt_or_ge i j with q | q
      · rw [h5 j (by omega) (by simp; omega)]
        congr 2; omega
      · have : j = i := by omega
        subst this
        rw [h4 j (by omega), List.getElem?_set, if_pos rfl, if_pos (by omega)]
        congr 2; omega
def Marked (a : Int) (y : List Int) : Prop := ∀ j, j < y.length → y[j]? = some ((a + (j : Int)) % 256)
theorem markByteS_ev (x : List Int) (a : Int) (hl : x.length ≤ 8796093022208) (h0 : 0 ≤ a) (h1 : a ≤ 8796093022208) : ∃ y, Ev (fun k => laws_markByteS.f k x a) (a + x.length, y) ∧ y.length = x.length ∧ Marked a y := by
  obtain ⟨y, h2, h3, _, h5⟩ := markByteS_l0 x.length x a 0 rfl (by omega) hl h0 (by omega)
  refine ⟨y, h2, h3, fun j hj => ?_⟩
  rw [h5 j (by omega) (by omega)]
  rfl
theorem heldByteS_l0 : ∀ (n : Nat) (y : List Int) (a : Int) (i : Nat), y.length - i = n → i ≤ y.length → y.length ≤ 8796093022208 → 0 ≤ a → a ≤ 8796093022208 → Marked a y → Ev (fun k => laws_heldByteS.l0 k y (a + i) (i : Int)) (a + y.length)
  | 0, y, a, i, hn, hi, hl, h0, h1, hm => by
    apply ev_succ
    simp only [laws_heldByteS.l0, if_neg (show ¬ (i : Int) < y.length by omega)]
    rw [show a + (y.length : Int) = a + i by omega]; exact Ev.now _
  | n + 1, y, a, i, hn, hi, hl, h0, h1, hm => by
    have ih := heldByteS_l0 n y a (i + 1) (by omega) (by omega) hl h0 h1 hm
    have hr : rd y (i : Int) = (a + i) % 256 := by
      unfold rd
      rw [Int.toNat_natCast, List.getD_eq_getElem?_getD, hm i (by omega)]; rfl
    apply ev_succ
    simp only [laws_heldByteS.l0, if_pos (show (i : Int) < y.length by omega), if_pos (show (0 : Int) ≤ i by omega), hr, if_true, show wrap64 ((i : Int) + 1) = ((i + 1 : Nat) : Int) from by rw [wrap_id (by omega) (by omega)]; omega, show wrap64 (a + (i : Int) + 1) = a + ((i + 1 : Nat) : Int) from by rw [wrap_id (by omega) (by omega)]; omega]
    exact ih
theorem heldByteS_ev (y : List Int) (a : Int) (hl : y.length ≤ 8796093022208) (h0 : 0 ≤ a) (h1 : a ≤ 8796093022208) (hm : Marked a y) : Ev (fun k => laws_heldByteS.f k y a) (a + y.length) := by
  have := heldByteS_l0 y.length y a 0 rfl (by omega) hl h0 h1 hm
  simpa [laws_heldByteS.f] using this

theorem markText_l0 : ∀ (u : Nat) (x : ByteArray), u ≤ 8796093022208 → x.size + u ≤ 17592186044416 → ∃ t, Ev (fun k => laws_markText.l0 k (u : Int) x) t := by
  intro u
  induction u using Nat.strongRecOn with
  | _ u ih =>
    intro x hu hx
    rcases Nat.eq_zero_or_pos u with h | h
    · subst h
      refine ⟨(⟨#[109]⟩ : ByteArray) ++ x, ?_⟩
      apply ev_succ
      simp only [laws_markText.l0, if_neg (show ¬ ((0 : Nat) : Int) > 0 by omega), if_pos (show 1 + x.size ≤ 9223372036854775807 by omega)]
      exact Ev.now _
    · have hs : (strOfNums [48 + ((u % 10 : Nat) : Int)]).size = 1 := by
        rw [size_len, bytesOf_strOfNums _ (by intro y hy; rw [List.mem_singleton] at hy; omega)]; rfl
      obtain ⟨t, ht⟩ := ih (u / 10) (by omega) (strOfNums [48 + ((u % 10 : Nat) : Int)] ++ x) (by omega) (by rw [ByteArray.size_append, hs]; omega)
      refine ⟨t, ?_⟩
      apply ev_succ
      simp only [laws_markText.l0, if_pos (show (u : Int) > 0 by omega), Option.bind_some, digit_byte u (by omega), tdiv_ten u (by omega), hs, if_pos (show 1 + x.size ≤ 9223372036854775807 by omega)]
      exact ht
theorem markText_ev (a : Int) (h1 : a ≤ 8796093022208) : ∃ t, Ev (fun k => laws_markText.f k a) t := by
  by_cases h : a ≤ 0
  · refine ⟨(⟨#[109, 48]⟩ : ByteArray), ?_⟩
    simp only [laws_markText.f, if_pos h]; exact Ev.now _
  · obtain ⟨t, ht⟩ := markText_l0 a.toNat (⟨#[]⟩ : ByteArray) (by omega) (by rw [show (⟨#[]⟩ : ByteArray).size = 0 from rfl]; omega)
    refine ⟨t, ?_⟩
    rw [Int.toNat_of_nonneg (by omega)] at ht
    simp only [laws_markText.f, if_neg h]; exact ht

noncomputable def mT (a : Int) : ByteArray := if h : a ≤ 8796093022208 then Classical.choose (markText_ev a h) else ⟨#[]⟩
theorem mT_ev (a : Int) (h : a ≤ 8796093022208) : Ev (fun k => laws_markText.f k a) (mT a) := by
  unfold mT; rw [dif_pos h]; exact Classical.choose_spec (markText_ev a h)
/-! heads that are marked, and held -/
noncomputable def mHd (b : Int) : S113 := ⟨mT b, mT (b + 1)⟩
def MarkedH (a : Int) (y : List S113) : Prop := ∀ j, j < y.length → y[j]? = some (mHd (a + 2 * (j : Int)))
theorem markHeadS2_l0 : ∀ (n : Nat) (x : List S113) (a : Int) (i : Nat), x.length - i = n → i ≤ x.length → x.length ≤ 1099511627776 → 0 ≤ a → a + 2 * n ≤ 8796093022208 → ∃ y, Ev (fun k => laws_markHeadS.l0 k x a (i : Int)) (a + 2 * n, y) ∧ y.length = x.length ∧ (∀ j, j < i → y[j]? = x[j]?) ∧ ∀ j, i ≤ j → j < x.length → y[j]? = some (mHd (a + 2 * ((j - i : Nat) : Int)))
  | 0, x, a, i, hn, hi, hl, h0, h1 => by
    refine ⟨x, ?_, rfl, fun _ _ => rfl, fun j h2 h3 => by omega⟩
    apply ev_succ
    simp only [laws_markHeadS.l0, if_neg (show ¬ (i : Int) < x.length by omega)]
    rw [show a + 2 * ((0 : Nat) : Int) = a by omega]; exact Ev.now _
  | n + 1, x, a, i, hn, hi, hl, h0, h1 => by
    have e1 := mT_ev a (by omega)
    have e2 := mT_ev (a + 1) (by omega)
    have es : (x.set i ⟨mT a, (rd_T113 x i).f1⟩).set i ⟨(rd_T113 (x.set i ⟨mT a, (rd_T113 x i).f1⟩) i).f0, mT (a + 1)⟩ = x.set i (mHd a) := by
      have hr : rd_T113 (x.set i ⟨mT a, (rd_T113 x i).f1⟩) i = ⟨mT a, (rd_T113 x i).f1⟩ := by
        unfold rd_T113
        rw [Int.toNat_natCast, List.getD_eq_getElem?_getD, List.getElem?_set, if_pos rfl, if_pos (by omega)]; rfl
      rw [List.set_set, hr]; rfl
    obtain ⟨y, h2, h3, h4, h5⟩ := markHeadS2_l0 n (x.set i (mHd a)) (a + 2) (i + 1) (by simp; omega) (by simp; omega) (by simp; omega) (by omega) (by omega)
    refine ⟨y, ?_, by rw [h3]; simp, ?_, ?_⟩
    · apply ev_succ
      simp only [laws_markHeadS.l0, if_pos (show (i : Int) < x.length by omega), if_pos (show (0 : Int) ≤ i by omega), Int.toNat_natCast, wrap_id (x := a + 1) (by omega) (by omega), wrap_id (x := a + 1 + 1) (by omega) (by omega), show wrap64 ((i : Int) + 1) = ((i + 1 : Nat) : Int) from by rw [wrap_id (by omega) (by omega)]; omega, Option.bind_some]
      refine Ev.bind e1 (Ev.bind e2 ?_)
      rw [show a + 2 * ((n + 1 : Nat) : Int) = a + 2 + 2 * n by omega, show a + 1 + 1 = a + 2 by omega, es]; exact h2
    · intro j hj
      rw [h4 j (by omega), List.getElem?_set, if_neg (by omega)]
    · intro j hj hx
      rcases Nat.lt_or_ge i j with q | q
      · rw [h5 j (by omega) (by simp; omega)]
        congr 2; omega
      · have : j = i := by omega
        subst this
        rw [h4 j (by omega), List.getElem?_set, if_pos rfl, if_pos (by omega)]
        congr 2; omega
theorem markHeadS2_ev (x : List S113) (a : Int) (hl : x.length ≤ 1099511627776) (h0 : 0 ≤ a) (h1 : a ≤ 1099511627776) : ∃ y, Ev (fun k => laws_markHeadS.f k x a) (a + 2 * x.length, y) ∧ y.length = x.length ∧ MarkedH a y := by
  obtain ⟨y, h2, h3, _, h5⟩ := markHeadS2_l0 x.length x a 0 rfl (by omega) hl h0 (by omega)
  refine ⟨y, h2, h3, fun j hj => ?_⟩
  rw [h5 j (by omega) (by omega)]
  rfl
theorem heldHeadS_l0 : ∀ (n : Nat) (y : List S113) (a : Int) (i : Nat), y.length - i = n → i ≤ y.length → y.length ≤ 1099511627776 → 0 ≤ a → a ≤ 1099511627776 → MarkedH a y → Ev (fun k => laws_heldHeadS.l0 k y (a + 2 * i) (i : Int)) (a + 2 * y.length)
  | 0, y, a, i, hn, hi, hl, h0, h1, hm => by
    apply ev_succ
    simp only [laws_heldHeadS.l0, if_neg (show ¬ (i : Int) < y.length by omega)]
    rw [show a + 2 * (y.length : Int) = a + 2 * i by omega]; exact Ev.now _
  | n + 1, y, a, i, hn, hi, hl, h0, h1, hm => by
    have ih := heldHeadS_l0 n y a (i + 1) (by omega) (by omega) hl h0 h1 hm
    have hr : rd_T113 y (i : Int) = mHd (a + 2 * i) := by
      unfold rd_T113
      rw [Int.toNat_natCast, List.getD_eq_getElem?_getD, hm i (by omega)]; rfl
    apply ev_succ
    simp only [laws_heldHeadS.l0, if_pos (show (i : Int) < y.length by omega), if_pos (show (0 : Int) ≤ i by omega), hr, show wrap64 ((i : Int) + 1) = ((i + 1 : Nat) : Int) from by rw [wrap_id (by omega) (by omega)]; omega, wrap_id (x := a + 2 * (i : Int) + 1) (by omega) (by omega), show wrap64 (a + 2 * (i : Int) + 1 + 1) = a + 2 * ((i + 1 : Nat) : Int) from by rw [wrap_id (by omega) (by omega)]; omega]
    refine Ev.bind (mT_ev (a + 2 * i) (by omega)) (ev_ite (fun _ => ?_) (fun q => absurd rfl q))
    exact Ev.bind (mT_ev (a + 2 * i + 1) (by omega)) (ev_ite (fun _ => ih) (fun q => absurd rfl q))
theorem heldHeadS_ev (y : List S113) (a : Int) (hl : y.length ≤ 1099511627776) (h0 : 0 ≤ a) (h1 : a ≤ 1099511627776) (hm : MarkedH a y) : Ev (fun k => laws_heldHeadS.f k y a) (a + 2 * y.length) := by
  have := heldHeadS_l0 y.length y a 0 rfl (by omega) hl h0 h1 hm
  simpa [laws_heldHeadS.f] using this

/-! a wire that is fed bytes: the reference and the program answer alike; marks over requests -/
theorem copyB_eq (l : List Int) (h : l.length ≤ 1099511627776) : impl_copyBytes.f l = some l := by
  unfold impl_copyBytes.f
  rw [if_pos (by simp only [List.length_nil]; omega), List.nil_append]
theorem getC_fine (l : List Int) (e : Nat) (he : e ≤ l.length) (m p : ByteArray) (hs : List S113) (ch : Bool) (sz code : Int) (h : qCode (getC l e m p hs ch sz code) = 0) : code = 0 ∧ (getC l e m p hs ch sz code).2.2.1 = hs ∧ qEnd (getC l e m p hs ch sz code) ≤ l.length := by
  unfold getC at h ⊢
  split
  · rename_i q; rw [if_pos q] at h; exact absurd h q
  · rename_i q
    refine ⟨Decidable.of_not_not q, ?_⟩
    rw [if_neg q] at h
    split
    · rename_i q1
      rw [if_pos q1] at h
      split
      · refine ⟨rfl, ?_⟩; show (l.length : Int) - _ ≤ _; omega
      · rename_i q2; rw [if_neg q2] at h; exact absurd h q2
    · rename_i q1
      rw [if_neg q1] at h
      split
      · rename_i q2; rw [if_pos q2] at h; exact absurd (show (1 : Int) = 0 from h) (by decide)
      · refine ⟨rfl, ?_⟩; show ((e + _ : Nat) : Int) ≤ _; omega
theorem getQ_fine (l : List Int) (hl : l.length ≤ 4194303) (hr : ∀ x ∈ l, 0 ≤ x ∧ x < 256) (h : qCode (getQ l) = 0) : 4 ≤ qEnd (getQ l) ∧ qEnd (getQ l) ≤ l.length ∧ (getQ l).2.2.1.length ≤ 8 := by
  have h4 : 0 ≤ headEnd l → (0 : Int) + 4 ≤ headEnd l := fun h => (fnd4_4 (l.take 400) 0 h).1
  have hle := headEnd_le l
  unfold getQ at h ⊢
  by_cases c0 : headEnd l < 0
  · rw [if_pos c0] at h
    split at h <;> exact absurd h (by simp only [qCode_bad]; decide)
  rw [if_neg c0] at h ⊢
  have h44 := h4 (by omega)
  have hel : (headEnd l).toNat ≤ l.length := by omega
  have hP := (rhS_P (l.take ((headEnd l).toNat - 4)) (by rw [List.length_take]; omega) (fun x hx => hr x (List.mem_of_mem_take hx))).2.1
  have hE := getC_end l _ hel _ _ _ _ _ _ h
  obtain ⟨f1, f2, f3⟩ := getC_fine l _ hel _ _ _ _ _ _ h
  refine ⟨by omega, f3, ?_⟩
  rw [f2]
  exact (hP f1).2
theorem feeds : ∀ (n : Nat) (acc : List S53) (buf : List Int), buf.length ≤ n → n ≤ 4194303 → (∀ x ∈ buf, 0 ≤ x ∧ x < 256) → acc.length + n ≤ 1099511627776 →
    ∃ (rs : List S53) (b' : List Int) (c' : Int), Ev (fun k => impl_Wire_feed.l0 k acc buf 0) (acc ++ rs, b', c') ∧ Ev (fun k => spec_Feed.l0 k acc buf 0) (b', c', acc ++ rs) ∧ rs.length + b'.length ≤ buf.length ∧ (∀ x ∈ b', 0 ≤ x ∧ x < 256) ∧ ∀ r ∈ rs, r.f2.length ≤ 8 := by
  intro n
  induction n with
  | zero =>
    intro acc buf hb hn hr ha
    have e0 : buf = [] := List.length_eq_zero_iff.1 (by omega)
    subst e0
    have hg := getReq_ev [] (by simp) (by simp)
    have hs := spec_GetReq_ev [] (by simp) (by simp)
    have hc : (getQ []).2.2.2.2.2 = 1 := by decide
    refine ⟨[], [], 0, ?_, ?_, Nat.le_refl _, fun r hx => absurd hx (by simp), fun r hx => absurd hx (by simp)⟩
    · apply ev_succ
      simp only [impl_Wire_feed.l0]
      refine Ev.bind hg ?_
      simp only [if_neg (show ¬ (getQ []).2.2.2.2.2 = 0 by rw [hc]; decide), if_pos hc, copyB_eq [] (by simp), Option.bind_some, List.append_nil]
      exact Ev.now _
    · apply ev_succ
      simp only [spec_Feed.l0]
      refine Ev.bind hs ?_
      simp only [if_pos hc, List.append_nil]
      exact Ev.now _
  | succ n ih =>
    intro acc buf hb hn hr ha
    have hg := getReq_ev buf (by omega) hr
    have hs := spec_GetReq_ev buf (by omega) hr
    by_cases c0 : (getQ buf).2.2.2.2.2 = 0
    · obtain ⟨f1, f2, f3⟩ := getQ_fine buf (by omega) hr c0
      simp only [qEnd] at f1 f2
      obtain ⟨e, he⟩ : ∃ e : Nat, (getQ buf).2.2.2.2.1 = (e : Int) := ⟨((getQ buf).2.2.2.2.1).toNat, by omega⟩
      rw [he] at f1 f2
      obtain ⟨rs, b', c', g1, g2, g3, g4, g5⟩ := ih (acc ++ [(⟨(getQ buf).1, (getQ buf).2.1, (getQ buf).2.2.1, (getQ buf).2.2.2.1⟩ : S53)]) (buf.drop e) (by rw [List.length_drop]; omega) (by omega) (fun x hx => hr x (List.mem_of_mem_drop hx)) (by rw [List.length_append, List.length_singleton]; omega)
      rw [List.length_drop] at g3
      rw [List.append_assoc] at g1 g2
      refine ⟨⟨(getQ buf).1, (getQ buf).2.1, (getQ buf).2.2.1, (getQ buf).2.2.2.1⟩ :: rs, b', c', ?_, ?_, by rw [List.length_cons]; omega, g4, fun r hx => ?_⟩
      · apply ev_succ
        simp only [impl_Wire_feed.l0]
        refine Ev.bind hg ?_
        simp only [if_pos c0, if_pos (show acc.length < 1954687338268 by omega), he, if_pos (show (0 : Int) ≤ (e : Int) by omega), if_pos (show (e : Int) ≤ (buf.length : Int) by omega), Int.toNat_natCast]
        exact g1
      · apply ev_succ
        simp only [spec_Feed.l0]
        refine Ev.bind hs ?_
        simp only [if_neg (show ¬ (getQ buf).2.2.2.2.2 = 1 by rw [c0]; decide), if_pos c0, if_pos (show acc.length < 1954687338268 by omega), he, if_pos (show (0 : Int) ≤ (e : Int) by omega), if_pos (show (e : Int) ≤ (buf.length : Int) by omega), Int.toNat_natCast, Option.bind_some, List.length_nil, List.nil_append, if_pos (show 0 + (buf.drop e).length < 140737488355328 by rw [List.length_drop]; omega)]
        exact g2
      · rcases List.mem_cons.1 hx with hx | hx
        · rw [hx]; exact f3
        · exact g5 r hx
    · by_cases c1 : (getQ buf).2.2.2.2.2 = 1
      · refine ⟨[], buf, 0, ?_, ?_, by simp, hr, fun r hx => absurd hx (by simp)⟩
        · apply ev_succ
          simp only [impl_Wire_feed.l0]
          refine Ev.bind hg ?_
          simp only [if_neg c0, if_pos c1, copyB_eq buf (by omega), Option.bind_some, List.append_nil]
          exact Ev.now _
        · apply ev_succ
          simp only [spec_Feed.l0]
          refine Ev.bind hs ?_
          simp only [if_pos c1, List.append_nil]
          exact Ev.now _
      · refine ⟨[], [], (getQ buf).2.2.2.2.2, ?_, ?_, Nat.zero_le _, fun r hx => absurd hx (by simp), fun r hx => absurd hx (by simp)⟩
        · apply ev_succ
          simp only [impl_Wire_feed.l0]
          refine Ev.bind hg ?_
          simp only [if_neg c0, if_neg c1, copyB_eq [] (by simp), Option.bind_some, List.append_nil]
          exact Ev.now _
        · apply ev_succ
          simp only [spec_Feed.l0]
          refine Ev.bind hs ?_
          simp only [if_neg c0, if_neg c1, List.append_nil]
          exact Ev.now _
theorem feedW (b0 : List Int) (bad : Int) (b1 : List Int) (h0 : b0.length + b1.length ≤ 4194303) (r0 : ∀ x ∈ b0, 0 ≤ x ∧ x < 256) (r1 : ∀ x ∈ b1, 0 ≤ x ∧ x < 256) :
    ∃ (rs : List S53) (b' : List Int) (c' : Int), Ev (fun k => impl_Wire_feed.f k b0 bad b1) (rs, b', c') ∧ Ev (fun k => spec_Feed.f k b0 bad b1) (b', c', rs) ∧ rs.length + b'.length ≤ b0.length + b1.length ∧ (∀ x ∈ b', 0 ≤ x ∧ x < 256) ∧ (∀ r ∈ rs, r.f2.length ≤ 8) := by
  by_cases q : bad = 0
  · subst q
    obtain ⟨rs, b', c', g1, g2, g3, g4, g5⟩ := feeds (b0 ++ b1).length [] (b0 ++ b1) (Nat.le_refl _) (by rw [List.length_append]; omega) (fun x hx => (List.mem_append.1 hx).elim (r0 x) (r1 x)) (by rw [List.length_append]; simp only [List.length_nil]; omega)
    rw [List.nil_append] at g1 g2
    rw [List.length_append] at g3
    refine ⟨rs, b', c', ?_, ?_, g3, g4, g5⟩
    · unfold impl_Wire_feed.f
      simp only [copyB_eq b0 (by omega), Option.bind_some, if_true, if_pos (show b0.length + b1.length < 140737488355328 by omega)]
      exact g1
    · unfold spec_Feed.f
      simp only [Option.bind_some, List.length_nil, List.nil_append, if_true, if_pos (show 0 + b0.length < 140737488355328 by omega), if_pos (show b0.length + b1.length < 140737488355328 by omega)]
      exact g2
  · refine ⟨[], b0, bad, ?_, ?_, by simp, r0, fun r hx => absurd hx (by simp)⟩
    · unfold impl_Wire_feed.f
      simp only [if_neg q]
      exact Ev.now _
    · unfold spec_Feed.f
      simp only [Option.bind_some, List.length_nil, List.nil_append, if_neg q, if_pos (show 0 + b0.length < 140737488355328 by omega)]
      exact Ev.now _
theorem rdReq_mid (done rest : List S53) (r : S53) : rd_T53 (done ++ r :: rest) (done.length : Int) = r := by
  unfold rd_T53
  rw [Int.toNat_natCast, List.getD_eq_getElem?_getD, List.getElem?_append_right (Nat.le_refl _), Nat.sub_self]; rfl
theorem setReq_mid (done rest : List S53) (r r' : S53) : (done ++ r :: rest).set done.length r' = (done ++ [r']) ++ rest := by
  rw [List.set_append_right _ _ (Nat.le_refl _), Nat.sub_self, List.set_cons_zero, List.append_assoc]; rfl
theorem eqReqS_l0 (rs : List S53) (hl : rs.length ≤ 1099511627776) (hh : ∀ r ∈ rs, r.f2.length ≤ 8) : ∀ (rest done : List S53), done ++ rest = rs → Ev (fun k => laws_eqReqS.l0 k rs rs (done.length : Int)) true
  | [], done, h => by
    rw [List.append_nil] at h
    subst h
    apply ev_succ
    simp only [laws_eqReqS.l0, if_neg (show ¬ (done.length : Int) < (done.length : Int) by omega)]
    exact Ev.now _
  | r :: rest, done, h => by
    have hlen := congrArg List.length h
    rw [List.length_append, List.length_cons] at hlen
    have ih := eqReqS_l0 rs hl hh rest (done ++ [r]) (by rw [← h]; simp)
    rw [List.length_append, List.length_singleton] at ih
    have hr := hh r (by rw [← h]; simp)
    have he := eqReq_ev r.f0 r.f1 r.f2 r.f3 r.f0 r.f1 r.f2 r.f3 (by omega)
    rw [decb_true ⟨rfl, rfl, rfl, rfl⟩] at he
    have hm := rdReq_mid done rest r
    rw [h] at hm
    have hw : wrap64 ((done.length : Int) + 1) = ((done.length + 1 : Nat) : Int) := by rw [wrap_id (by omega) (by omega)]; rfl
    apply ev_succ
    simp only [laws_eqReqS.l0, if_pos (show (done.length : Int) < (rs.length : Int) by omega), if_pos (show (0 : Int) ≤ (done.length : Int) by omega), hm, hw]
    exact Ev.bind he (ev_iteB (fun _ => ih) (fun q => absurd q (by decide)))
theorem eqReqS_self (rs : List S53) (hl : rs.length ≤ 1099511627776) (hh : ∀ r ∈ rs, r.f2.length ≤ 8) : Ev (fun k => laws_eqReqS.f k rs rs) true := by
  unfold laws_eqReqS.f
  simp only [if_true]
  exact eqReqS_l0 rs hl hh rs [] rfl
theorem eqWire_self (b : List Int) (c : Int) (hl : b.length ≤ 1099511627776) : Ev (fun k => laws_eqWire.f k b c b c) true := by
  unfold laws_eqWire.f
  have h := eqByteS_ev b b (by omega)
  rw [(eqb_iff b b).mpr rfl] at h
  refine Ev.bind h (ev_iteB (fun _ => ?_) (fun q => absurd q (by decide)))
  simp only [if_true]
  exact Ev.now _
def MarkedR : Int → List S53 → Prop
  | _, [] => True
  | a, r :: rs => r.f0 = mT a ∧ r.f1 = mT (a + 1) ∧ MarkedH (a + 2) r.f2 ∧ r.f2.length ≤ 8 ∧ r.f3 = mT (a + 2 + 2 * r.f2.length) ∧ MarkedR (a + 3 + 2 * r.f2.length) rs
def endQ : Int → List S53 → Int
  | a, [] => a
  | a, r :: rs => endQ (a + 3 + 2 * r.f2.length) rs
theorem endQ_le : ∀ (rs : List S53) (a : Int), a ≤ endQ a rs
  | [], a => Int.le_refl _
  | r :: rs, a => by have := endQ_le rs (a + 3 + 2 * r.f2.length); unfold endQ; omega
theorem markReqS_l0 : ∀ (rest done : List S53) (a : Int), (∀ r ∈ rest, r.f2.length ≤ 8) → done.length + rest.length ≤ 1099511627776 → 0 ≤ a → a + 19 * rest.length ≤ 1099511627776 →
    ∃ y, Ev (fun k => laws_markReqS.l0 k (done ++ rest) a (done.length : Int)) (endQ a y, done ++ y) ∧ MarkedR a y ∧ y.length = rest.length
  | [], done, a, hh, hl, h0, h1 => by
    refine ⟨[], ?_, trivial, rfl⟩
    apply ev_succ
    rw [List.append_nil]
    simp only [laws_markReqS.l0, if_neg (show ¬ (done.length : Int) < (done.length : Int) by omega)]
    exact Ev.now _
  | r :: rest, done, a, hh, hl, h0, h1 => by
    rw [List.length_cons] at hl h1
    have hr := hh r (by simp)
    obtain ⟨z, m1, m2, m3⟩ := markHeadS2_ev r.f2 (a + 1 + 1) (by omega) (by omega) (by omega)
    obtain ⟨y, i1, i2, i3⟩ := markReqS_l0 rest (done ++ [(⟨mT a, mT (a + 1), z, mT (a + 1 + 1 + 2 * (r.f2.length : Int))⟩ : S53)]) (a + 1 + 1 + 2 * (r.f2.length : Int) + 1) (fun x hx => hh x (by simp [hx])) (by rw [List.length_append, List.length_singleton]; omega) (by omega) (by omega)
    rw [List.length_append, List.length_singleton] at i1
    have hw : wrap64 ((done.length : Int) + 1) = ((done.length + 1 : Nat) : Int) := by rw [wrap_id (by omega) (by omega)]; rfl
    have ea : a + 1 + 1 + 2 * (r.f2.length : Int) + 1 = a + 3 + 2 * (z.length : Int) := by rw [m2]; omega
    refine ⟨⟨mT a, mT (a + 1), z, mT (a + 1 + 1 + 2 * (r.f2.length : Int))⟩ :: y, ?_, ?_, by rw [List.length_cons, List.length_cons, i3]⟩
    · apply ev_succ
      simp only [laws_markReqS.l0, if_pos (show (done.length : Int) < ((done ++ r :: rest).length : Int) by rw [List.length_append, List.length_cons]; omega), if_pos (show (0 : Int) ≤ (done.length : Int) by omega), rdReq_mid, hw, wrap_id (x := a + 1) (by omega) (by omega), wrap_id (x := a + 1 + 1) (by omega) (by omega), Int.toNat_natCast, setReq_mid]
      refine Ev.bind (mT_ev a (by omega)) (Ev.bind (mT_ev (a + 1) (by omega)) (Ev.bind m1 (Ev.bind (mT_ev _ (by simp only []; omega)) ?_)))
      simp only [wrap_id (x := a + 1 + 1 + 2 * (r.f2.length : Int) + 1) (by omega) (by omega)]
      show Ev _ (endQ (a + 3 + 2 * (z.length : Int)) y, _)
      rw [← ea]
      have e2 : done ++ (⟨mT a, mT (a + 1), z, mT (a + 1 + 1 + 2 * (r.f2.length : Int))⟩ : S53) :: y = done ++ [(⟨mT a, mT (a + 1), z, mT (a + 1 + 1 + 2 * (r.f2.length : Int))⟩ : S53)] ++ y := by simp
      rw [e2]
      exact i1
    · refine ⟨rfl, rfl, ?_, by show z.length ≤ 8; omega, ?_, ?_⟩
      · rw [show a + 2 = a + 1 + 1 by omega]; exact m3
      · show mT _ = mT (a + 2 + 2 * (z.length : Int))
        rw [m2, show a + 1 + 1 + 2 * (r.f2.length : Int) = a + 2 + 2 * (r.f2.length : Int) by omega]
      · show MarkedR (a + 3 + 2 * (z.length : Int)) y
        rw [← ea]; exact i2
theorem heldReqS_l0 : ∀ (rest done : List S53) (a : Int), MarkedR a rest → done.length + rest.length ≤ 1099511627776 → 0 ≤ a → a + 19 * rest.length ≤ 1099511627776 →
    Ev (fun k => laws_heldReqS.l0 k (done ++ rest) a (done.length : Int)) (endQ a rest)
  | [], done, a, hm, hl, h0, h1 => by
    apply ev_succ
    rw [List.append_nil]
    simp only [laws_heldReqS.l0, if_neg (show ¬ (done.length : Int) < (done.length : Int) by omega)]
    exact Ev.now _
  | r :: rest, done, a, hm, hl, h0, h1 => by
    rw [List.length_cons] at hl h1
    obtain ⟨e0, e1, e2, e8, e3, e4⟩ := hm
    have ih := heldReqS_l0 rest (done ++ [r]) _ e4 (by rw [List.length_append, List.length_singleton]; omega) (by omega) (by omega)
    rw [List.length_append, List.length_singleton, List.append_assoc] at ih
    have hw : wrap64 ((done.length : Int) + 1) = ((done.length + 1 : Nat) : Int) := by rw [wrap_id (by omega) (by omega)]; rfl
    have hh := heldHeadS_ev r.f2 (a + 2) (by omega) (by omega) (by omega) e2
    apply ev_succ
    simp only [laws_heldReqS.l0, if_pos (show (done.length : Int) < ((done ++ r :: rest).length : Int) by rw [List.length_append, List.length_cons]; omega), if_pos (show (0 : Int) ≤ (done.length : Int) by omega), rdReq_mid, hw, wrap_id (x := a + 1) (by omega) (by omega), show wrap64 (a + 1 + 1) = a + 2 by rw [wrap_id (by omega) (by omega)]; omega]
    refine Ev.bind (mT_ev a (by omega)) (ev_ite (fun _ => ?_) (fun q => absurd (by rw [e0]) q))
    refine Ev.bind (mT_ev (a + 1) (by omega)) (ev_ite (fun _ => ?_) (fun q => absurd (by rw [e1]) q))
    refine Ev.bind hh (ev_ite (fun q => absurd q (by omega)) (fun _ => ?_))
    refine Ev.bind (mT_ev (a + 2 + 2 * (r.f2.length : Int)) (by omega)) (ev_ite (fun _ => ?_) (fun q => absurd (by rw [e3]) q))
    simp only [wrap_id (x := a + 2 + 2 * (r.f2.length : Int) + 1) (by omega) (by omega)]
    rw [show a + 2 + 2 * (r.f2.length : Int) + 1 = a + 3 + 2 * (r.f2.length : Int) by omega]
    exact ih

/-! rows of rows of bytes: their sizes, their copies -/
def szLL (left : Int) : List (List Int) → Int
  | [] => left
  | x :: r => if left - (x.length : Int) < 0 then -1 else szLL (left - x.length) r
theorem szLL_le : ∀ (l : List (List Int)) (left : Int), ¬ szLL left l < 0 → ((l.map List.length).sum : Int) ≤ left
  | [], left, h => by simp only [szLL] at h; simp; omega
  | x :: r, left, h => by
    simp only [szLL] at h
    by_cases q : left - (x.length : Int) < 0
    · rw [if_pos q] at h; exact absurd (by decide) h
    · rw [if_neg q] at h
      have := szLL_le r _ h
      simp only [List.map_cons, List.sum_cons]
      omega
theorem len_le_sum (l : List (List Int)) (x : List Int) (h : x ∈ l) : x.length ≤ (l.map List.length).sum := by
  induction l with
  | nil => cases h
  | cons y r ih =>
    simp only [List.map_cons, List.sum_cons]
    rcases List.mem_cons.1 h with rfl | h
    · omega
    · have := ih h; omega
theorem getD_mem {l : List (List Int)} {i : Nat} {c : List Int} (hi : i < l.length) (h : ∀ d, l.getD (i : Int).toNat d = c) : c ∈ l := by
  have := h []
  rw [Int.toNat_natCast, List.getD_eq_getElem?_getD, List.getElem?_eq_getElem hi, Option.getD_some] at this
  rw [← this]; exact List.getElem_mem hi
theorem szByteSS_ev (l : List (List Int)) (hl : l.length ≤ 9223372036854775806) (hx : ∀ x ∈ l, x.length ≤ 9223372036854775807) : Ev (fun k => laws_szByteSS.f k l 0x100000) (if 0x100000 - (l.length : Int) < 0 then -1 else szLL (0x100000 - l.length) l) := by
  unfold laws_szByteSS.f
  have hw : wrap64 (0x100000 - (l.length : Int)) = 0x100000 - (l.length : Int) := wrap_id (by omega) (by omega)
  simp only [hw]
  refine ev_ite (fun q => ?_) (fun q => ?_)
  · rw [if_pos q]; exact Ev.now _
  · rw [if_neg q]
    have := list_loop_st l hl (fun i (x : Int) k => laws_szByteSS.l0 k l x (i : Int)) (fun _ x r => szLL x r) (fun _ x _ => 0 ≤ x ∧ x ≤ 0x100000) ?_ ?_ 0 (0x100000 - (l.length : Int)) ⟨by omega, by omega⟩
    · rw [List.drop_zero] at this; exact this
    · intro i x _ hi
      apply ev_succ; simp only [laws_szByteSS.l0, if_neg (show ¬ (i : Int) < l.length by omega)]; exact Ev.now _
    · intro i x c r ⟨h0, h1⟩ hd hb hi hw1 ih
      have hbb : rd_L5 l (i : Int) = c := hb _
      have hc := hx c (getD_mem hi hb)
      have hw2 : wrap64 (x - (c.length : Int)) = x - (c.length : Int) := wrap_id (by omega) (by omega)
      apply ev_succ
      simp only [laws_szByteSS.l0, if_pos (show (i : Int) < l.length by omega), if_pos (show (0 : Int) ≤ i by omega), hbb, laws_szByteS.f, hw2, hw1]
      by_cases q2 : x - (c.length : Int) < 0
      · simp only [if_pos q2, Option.bind_some, szLL, if_pos (show (-1 : Int) < 0 by decide)]; exact Ev.now _
      · simp only [if_neg q2, Option.bind_some, szLL]
        exact ih _ ⟨by omega, by omega⟩
theorem toByteSS_ev (l : List (List Int)) (hl : l.length ≤ 4194304) (hx : ∀ x ∈ l, x.length ≤ 4194304) : Ev (fun k => laws_toByteSS.f k l) l := by
  unfold laws_toByteSS.f
  simp only [if_pos (show (0 : Int) ≤ (l.length : Int) by omega), Int.toNat_natCast, if_pos (show l.length ≤ 11728124029610 by omega)]
  have := fill_loop l (fun x => x) ([] : List Int) (by omega) (fun i x k => laws_toByteSS.l0 k l x (i : Int)) ?_ ?_
  · simpa using this
  · intro i x hi
    apply ev_succ; simp only [laws_toByteSS.l0, if_neg (show ¬ (i : Int) < l.length by omega)]; exact Ev.now _
  · intro i x c r hi hxl hb hw1 ih
    have hbb : rd_L5 l (i : Int) = c := hb _
    have hc := hx c (getD_mem hi hb)
    apply ev_succ
    simp only [laws_toByteSS.l0, if_pos (show (i : Int) < l.length by omega), if_pos (show (0 : Int) ≤ i by omega), hbb]
    refine Ev.bind (toByteS_ev c (by omega)) ?_
    simp only [if_pos (show (i : Int) < x.length by omega), hw1]
    exact ih
theorem eqByteSS_ev (l : List (List Int)) (hl : l.length ≤ 4194304) (hx : ∀ x ∈ l, x.length ≤ 4194304) : Ev (fun k => laws_eqByteSS.f k l l) true := by
  unfold laws_eqByteSS.f
  simp only [if_true]
  have := list_loop_st l (by omega) (fun i (_ : Unit) k => laws_eqByteSS.l0 k l l (i : Int)) (fun _ _ _ => true) (fun _ _ _ => True) ?_ ?_ 0 () trivial
  · exact this
  · intro i x _ hi
    apply ev_succ; simp only [laws_eqByteSS.l0, if_neg (show ¬ (i : Int) < l.length by omega)]; exact Ev.now _
  · intro i x c r hI hd hb hi hw1 ih
    have hbb : rd_L5 l (i : Int) = c := hb _
    have hc := hx c (getD_mem hi hb)
    have ee := eqByteS_ev c c (by omega)
    rw [eqb_self] at ee
    apply ev_succ
    simp only [laws_eqByteSS.l0, if_pos (show (i : Int) < l.length by omega), if_pos (show (0 : Int) ≤ i by omega), hbb, hw1]
    refine Ev.bind ee ?_
    simp only [if_true]
    exact ih () trivial

/-! a wire that is fed piece by piece -/
theorem feedAlls (pcs : List (List Int)) (hn : pcs.length ≤ 4194304) (hr : ∀ p ∈ pcs, ∀ x ∈ p, 0 ≤ x ∧ x < 256) : ∀ (n j : Nat) (acc : List S53) (buf : List Int) (bad : Int), pcs.length - j = n → j ≤ pcs.length → (∀ x ∈ buf, 0 ≤ x ∧ x < 256) → buf.length + ((pcs.drop j).map List.length).sum ≤ 4194303 → acc.length + (buf.length + ((pcs.drop j).map List.length).sum) ≤ 1099511627 →
    ∃ (rs : List S53) (b' : List Int) (c' : Int), Ev (fun k => impl_FeedAll.l0 k acc pcs (pcs.length : Int) (j : Int) buf bad) (b', c', acc ++ rs) ∧ Ev (fun k => spec_FeedAll.l0 k pcs acc (j : Int) buf bad) (b', c', acc ++ rs) ∧ rs.length + b'.length ≤ buf.length + ((pcs.drop j).map List.length).sum ∧ ∀ r ∈ rs, r.f2.length ≤ 8 := by
  intro n
  induction n with
  | zero =>
    intro j acc buf bad h1 h2 hb hs ha
    have hj : j = pcs.length := by omega
    subst hj
    refine ⟨[], buf, bad, ?_, ?_, by simp, fun r hx => absurd hx (by simp)⟩
    · apply ev_succ
      simp only [impl_FeedAll.l0, if_neg (show ¬ (pcs.length : Int) < (pcs.length : Int) by omega), List.append_nil]
      exact Ev.now _
    · apply ev_succ
      simp only [spec_FeedAll.l0, if_neg (show ¬ (pcs.length : Int) < (pcs.length : Int) by omega), List.append_nil]
      exact Ev.now _
  | succ n ih =>
    intro j acc buf bad h1 h2 hb hs ha
    have hjl : j < pcs.length := by omega
    have hd : pcs.drop j = pcs[j] :: pcs.drop (j + 1) := List.drop_eq_getElem_cons hjl
    rw [hd] at hs ha ⊢
    simp only [List.map_cons, List.sum_cons] at hs ha ⊢
    have hm : pcs[j] ∈ pcs := List.getElem_mem hjl
    have hrd : rd_L5 pcs (j : Int) = pcs[j] := by
      unfold rd_L5
      rw [Int.toNat_natCast, List.getD_eq_getElem?_getD, List.getElem?_eq_getElem hjl]; rfl
    have hw : wrap64 ((j : Int) + 1) = ((j + 1 : Nat) : Int) := by rw [wrap_id (by omega) (by omega)]; rfl
    obtain ⟨rs, b', c', g1, g2, g3, g4, g5⟩ := feedW buf bad pcs[j] (by omega) hb (hr _ hm)
    obtain ⟨rt, b2, c2, k1, k2, k3, k5⟩ := ih (j + 1) (acc ++ rs) b' c' (by omega) (by omega) g4 (by omega) (by rw [List.length_append]; omega)
    rw [List.append_assoc] at k1 k2
    refine ⟨rs ++ rt, b2, c2, ?_, ?_, by rw [List.length_append]; omega, fun r hx => (List.mem_append.1 hx).elim (g5 r) (k5 r)⟩
    · apply ev_succ
      simp only [impl_FeedAll.l0, if_pos (show (j : Int) < (pcs.length : Int) by omega), if_pos (show (0 : Int) ≤ (j : Int) by omega), hw, hrd]
      refine Ev.bind g1 ?_
      simp only [if_pos (show acc.length + rs.length < 1954687338268 by omega)]
      exact k1
    · apply ev_succ
      simp only [spec_FeedAll.l0, if_pos (show (j : Int) < (pcs.length : Int) by omega), if_pos (show (0 : Int) ≤ (j : Int) by omega), hw, hrd]
      refine Ev.bind g2 ?_
      simp only [if_pos (show acc.length + rs.length < 1954687338268 by omega)]
      exact k2

theorem FnExactFeedAll : laws_FnExactFeedAll.Pure := by
  intro l hw
  apply Ev.rounds
  unfold laws_FnExactFeedAll.f
  by_cases h64 : l.length ≤ 9223372036854775806
  rotate_left
  · have hl : l.length = 9223372036854775807 := by have := hw.1; omega
    have e : ∀ k, laws_szByteSS.f k l 0x100000 = some (-1) := fun k => by
      unfold laws_szByteSS.f
      have hw : wrap64 (0x100000 - (l.length : Int)) = 0x100000 - (l.length : Int) := wrap_id (by omega) (by omega)
      rw [hw, if_pos (by omega)]
    refine Ev.bind (Ev.congr e (Ev.now _)) ?_
    simp only [if_pos (show (-1 : Int) < 0 by decide)]
    exact Ev.now _
  refine Ev.bind (szByteSS_ev l h64 (fun x hx => (hw.2 x hx).1)) (ev_ite (fun _ => Ev.now _) (fun q0 => ?_))
  by_cases q : 0x100000 - (l.length : Int) < 0
  · rw [if_pos q] at q0; exact absurd (by decide) q0
  rw [if_neg q] at q0
  have hsum := szLL_le l _ q0
  have hl : l.length ≤ 0x100000 := by omega
  have hs : (l.map List.length).sum ≤ 0x100000 := by omega
  have hx : ∀ x ∈ l, x.length ≤ 0x100000 := fun x hx => by have := len_le_sum l x hx; omega
  have hr : ∀ p ∈ l, ∀ x ∈ p, 0 ≤ x ∧ x < 256 := fun p hp => wf_bytes (hw.2 p hp).2
  have c0 := toByteSS_ev l (by omega) (fun x h => by have := hx x h; omega)
  have e2 := eqByteSS_ev l (by omega) (fun x h => by have := hx x h; omega)
  have hm : laws_markByteSS.f l 1 = some (1 + ((l.map List.length).sum : Int), l) := by
    unfold laws_markByteSS.f
    rw [if_pos ⟨by omega, by omega, by omega⟩]
  obtain ⟨rs, b', c', fi, fs, g3, g5⟩ := feedAlls l (by omega) hr _ 0 [] [] 0 rfl (Nat.zero_le _) (fun x hx => absurd hx (by simp)) (by rw [List.drop_zero]; simp only [List.length_nil]; omega) (by rw [List.drop_zero]; simp only [List.length_nil]; omega)
  rw [List.nil_append] at fi fs
  rw [List.drop_zero, List.length_nil] at g3
  have ew := eqWire_self b' c' (by omega)
  have er := eqReqS_self rs (by omega) g5
  obtain ⟨y2, m2, n2, k2⟩ := markByteS_ev b' 1 (by omega) (by omega) (by omega)
  have d2 := heldByteS_ev y2 1 (by omega) (by omega) (by omega) k2
  obtain ⟨y3, m3, k3, n3⟩ := markReqS_l0 rs [] (1 + b'.length) g5 (by simp only [List.length_nil]; omega) (by omega) (by omega)
  have d3 := heldReqS_l0 y3 [] (1 + b'.length) k3 (by simp only [List.length_nil]; omega) (by omega) (by omega)
  have hge := endQ_le y3 (1 + b'.length)
  rw [List.nil_append] at m3 d3
  rw [n2] at d2
  have hw2 : Ev (fun k => laws_heldWire.f k y2 c' 1) (1 + (b'.length : Int)) := by
    unfold laws_heldWire.f
    exact Ev.bind d2 (ev_ite (fun q => absurd q (by omega)) (fun _ => Ev.now _))
  have hj2 : Ev (fun k => laws_FnExactFeedAll.j2 k y3 (endQ (1 + (b'.length : Int)) y3) false y2 c') true := by
    apply ev_succ
    simp only [laws_FnExactFeedAll.j2, Bool.false_eq_true, if_false]
    refine Ev.bind hw2 (ev_ite (fun q => absurd q (by omega)) (fun _ => ?_))
    refine Ev.bind (show Ev (fun k => laws_heldReqS.f k y3 (1 + (b'.length : Int))) _ from d3) (ev_ite (fun q => absurd q (by omega)) (fun _ => ?_))
    simp only [if_true]
    exact Ev.now _
  have hfi : Ev (fun k => impl_FeedAll.f k l) (b', c', rs) := fi
  have hj1 : Ev (fun k => laws_FnExactFeedAll.j1 k l rs rs false b' c' b' c') true := by
    apply ev_succ
    simp only [laws_FnExactFeedAll.j1, Bool.false_eq_true, if_false]
    refine Ev.bind (show Ev (fun k => laws_markWire.f k b' c' 1) (1 + (b'.length : Int), y2) by unfold laws_markWire.f; exact Ev.bind m2 (Ev.now _)) ?_
    refine Ev.bind (show Ev (fun k => laws_markReqS.f k rs (1 + (b'.length : Int))) _ from m3) ?_
    refine Ev.bind hw2 (ev_ite (fun q => absurd q (by omega)) (fun _ => ?_))
    refine Ev.bind (show Ev (fun k => laws_heldReqS.f k y3 (1 + (b'.length : Int))) _ from d3) (ev_ite (fun q => absurd q (by omega)) (fun _ => ?_))
    simp only [if_true]
    refine Ev.bind c0 (Ev.bind hfi (Ev.bind ew (ev_iteB (fun _ => ?_) (fun q => absurd q (by decide)))))
    exact Ev.bind er hj2
  have hj0 : Ev (fun k => laws_FnExactFeedAll.j0 k l rs l rs false b' c' b' c') true := by
    apply ev_succ
    simp only [laws_FnExactFeedAll.j0, Bool.false_eq_true, if_false]
    refine Ev.bind c0 (Ev.bind e2 (ev_iteB (fun _ => ?_) (fun q => absurd q (by decide))))
    simp only [hm, Option.bind_some]
    refine ev_ite (fun q => absurd q (by omega)) (fun _ => ?_)
    refine Ev.bind ew (ev_iteB (fun _ => ?_) (fun q => absurd q (by decide)))
    exact Ev.bind er hj1
  refine Ev.bind c0 (Ev.bind (show Ev (fun k => spec_FeedAll.f k l) (b', c', rs) from fs) (Ev.bind c0 (Ev.bind hfi (Ev.bind ew (ev_iteB (fun _ => ?_) (fun q => absurd q (by decide)))))))
  exact Ev.bind er hj0

end Go.Proofs.YtaajhdljdmbhhaaGreatDoor.Pure
