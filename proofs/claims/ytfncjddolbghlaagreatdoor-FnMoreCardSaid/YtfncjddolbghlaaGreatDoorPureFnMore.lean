/- What is not all there asks for more, and what is wrong stays so, for all codes; no condition. -/
import Derived.Test.YtfncjddolbghlaaGreatDoorGFnMorex12
import Derived.Test.YtfncjddolbghlaaGreatDoorBase
import Derived.Lib.IndexMore
import Derived.Lib.Index
import Derived.Lib.SplitLaws
import Derived.Lib.IndexBytes
import Derived.Lib.ItoaNum
import Derived.Lib.AtoiTie
import Derived.Lib.Bytealg
import Derived.Lib.SlTrimSet
namespace Go.Proofs.YtfncjddolbghlaaGreatDoor.Pure
open Go.RowKit Go.Proofs.YtfncjddolbghlaaGreatDoor.GFnMore Go.Proofs.YtfncjddolbghlaaGreatDoor.Base Go.Proofs.YtfncjddolbghlaaGreatDoorW.PrintWords Go.Proofs.YtfncjddolbghlaaGreatDoorW.PrintLast
set_option linter.unusedVariables false
set_option linter.unusedSimpArgs false


/-- byte classes -/
def plainC (c : Int) : Bool := decide (32 ≤ c) && decide (c ≤ 126)
def smallC (c : Int) : Bool := decide (97 ≤ c) && decide (c ≤ 122)
def digitC (c : Int) : Bool := decide (48 ≤ c) && decide (c ≤ 57)
def largeC (c : Int) : Bool := decide (65 ≤ c) && decide (c ≤ 90)

theorem l1In_eq (c a b : Int) : spec_l1In.f c a b = some (decide (a ≤ c) && decide (c ≤ b)) := by
  unfold spec_l1In.f; split <;> simp [*] <;> omega

theorem l1Digit_eq (c : Int) (h : wrap64 c = c) : spec_l1Digit.f c = some (digitC c) := by
  unfold spec_l1Digit.f; rw [h, l1In_eq]; rfl

theorem isDigit_eq (c : Int) : impl_isDigit.f c = some (digitC c) := by
  unfold impl_isDigit.f digitC; split <;> simp [*] <;> omega

/-- a digit's worth to the base 16, or -1 -/
def hexC (c : Int) : Int := if digitC c = true then c - 48 else if 97 ≤ c ∧ c ≤ 102 then c - 87 else if 65 ≤ c ∧ c ≤ 70 then c - 55 else -1
theorem hexC_range (c : Int) : -1 ≤ hexC c ∧ hexC c < 16 := by
  unfold hexC digitC
  split
  · rename_i h; simp at h; omega
  · split
    · omega
    · split <;> omega
theorem digitOf_ev (c : Int) (h0 : 0 ≤ c) (h1 : c < 256) : Ev (fun k => impl_digitOf.f k c) (hexC c) := by
  have H : ∀ k, impl_digitOf.f (k + 1) c = some (hexC c) := by
    intro k
    simp only [impl_digitOf.f, isDigit_eq, Option.bind_some, impl_digitOf.j0, hexC]
    by_cases a1 : 48 ≤ c <;> by_cases a2 : c ≤ 57 <;> by_cases a3 : 97 ≤ c <;> by_cases a4 : c ≤ 102 <;> by_cases a5 : 65 ≤ c <;> by_cases a6 : c ≤ 70
    all_goals first | (exfalso; omega) | (simp [digitC, a1, a2, a3, a4, a5, a6, ge_iff_le]; done) | (simp [digitC, a1, a2, a3, a4, a5, a6, ge_iff_le]; omega)
  exact Ev.step H (Ev.now _)
def phL : Nat → Int → List Int → Int × Bool
  | i, n, [] => (n, decide (i ≠ 0))
  | i, n, c :: r => if hexC c < 0 then (0, false) else if i ≥ 4 then (0, false) else phL (i + 1) (n * 16 + hexC c) r
def parseHex (s : ByteArray) : Int × Bool := phL 0 0 (bytesOf s)
theorem pow16 {i : Nat} (h : i ≤ 4) : (16 : Int) ^ i ≤ 65536 := by
  rcases i with _ | _ | _ | _ | _ | i
  all_goals first | omega | decide
theorem impl_ParseHex_ev (s : ByteArray) (hs : s.size ≤ 140737488351232) : Ev (fun k => impl_ParseHex.f k s) (parseHex s) := by
  refine str_loop_st s (fun i n k => impl_ParseHex.l0 k s n (i : Int)) phL (fun i n r => i ≤ 4 ∧ 0 ≤ n ∧ n < 16 ^ i ∧ i + r.length = s.size) ?_ ?_ hs 0 0 ⟨by omega, by omega, by simp, by simp [bytesOf_length]⟩
  · intro i n ⟨_, _, _, hl⟩ hi
    apply ev_succ; simp only [impl_ParseHex.l0, if_neg (show ¬ (i : Int) < s.size by omega)]
    have : (s.toList != ([] : List UInt8)) = decide (i ≠ 0) := by
      rw [Lib.toList_data]
      have h2 := data_length s
      simp at hl
      rw [Bool.eq_iff_iff]
      simp only [bne_iff_ne, ne_eq, decide_eq_true_eq]
      rw [← List.length_eq_zero_iff, h2, hl]
    rw [this]; exact Ev.now _
  · intro i n c r ⟨h4, h0, hn, hl⟩ h hb hi hw hw1 ih
    have hc := bytesOf_range s c (List.mem_of_mem_drop (by rw [h]; simp : c ∈ (bytesOf s).drop i))
    have hd := hexC_range c
    have h16 := pow16 h4
    apply ev_succ
    simp only [impl_ParseHex.l0, if_pos (show (i : Int) < s.size by omega), if_pos (show (0 : Int) ≤ i by omega), hb, hw1]
    refine Ev.bind (digitOf_ev c hc.1 hc.2) (ev_ite (fun q => ?_) (fun q => ev_ite (fun q1 => ?_) (fun q1 => ?_)))
    · simpa [phL, q] using Ev.now (0, false)
    · have : i ≥ 4 := by omega
      simpa [phL, q, this] using Ev.now (0, false)
    · have h5 : ¬ i ≥ 4 := by omega
      rw [wrap_id (x := 16 * n) (by omega) (by omega), wrap_id (by omega) (by omega)]
      have := ih (n * 16 + hexC c) ⟨by omega, by omega, by rw [Int.pow_succ]; omega, by simp at hl ⊢; omega⟩
      simp only [phL, if_neg q, if_neg h5]
      rw [show 16 * n + hexC c = n * 16 + hexC c by omega]; exact this
theorem wf_bytes {l : List Int} (h : ∀ x ∈ l, (Lit.int .u8 x).wf = true) : ∀ x ∈ l, 0 ≤ x ∧ x < 256 := by
  intro x hx
  have := h x hx
  simp [Lit.wf, IntKind.min, IntKind.max, IntKind.signed, IntKind.bits] at this
  omega

theorem in_eq (c a b : Int) : impl_in.f c a b = some (decide (a ≤ c) && decide (c ≤ b)) := by
  unfold impl_in.f; split <;> simp [*] <;> omega

theorem u8_eq {a : Int} (h0 : 0 ≤ a) (h1 : a < 256) (n : Nat) (hn : n < 256) : (UInt8.ofNat n == UInt8.ofNat a.toNat) = decide (a = n) := by
  rw [Bool.eq_iff_iff, beq_iff_eq, decide_eq_true_iff]
  constructor
  · intro h
    have := congrArg UInt8.toNat h
    simp only [UInt8.toNat_ofNat'] at this
    omega
  · rintro rfl; simp

theorem so_nil (r : List Int) : ((strOfNums r).toList = ([] : List UInt8)) ↔ r = [] := by
  rw [Lib.toList_data, strOfNums_data]; simp
theorem so_bytes (r : List Int) (hr : ∀ x ∈ r, 0 ≤ x ∧ x < 256) : bytesOf (strOfNums r) = r := bytesOf_strOfNums r hr
theorem so_bt {r : List Int} {a : Int} {t : List Int} (hr : ∀ x ∈ r, 0 ≤ x ∧ x < 256) (h : r = a :: t) : bt (strOfNums r) 0 = a :=
  (bt_drop (s := strOfNums r) (i := 0) (c := a) (r := t) (by rw [so_bytes r hr, h]; rfl)).1
theorem so_cut (r : List Int) (hr : ∀ x ∈ r, 0 ≤ x ∧ x < 256) (i j : Nat) : (strOfNums r).extract i j = strOfNums ((r.take j).drop i) := by
  apply bytesOf_inj
  rw [bytesOf_extract, so_bytes r hr, so_bytes _ (fun x hx => hr x (List.mem_of_mem_take (List.mem_of_mem_drop hx)))]
theorem so_from (r : List Int) (hr : ∀ x ∈ r, 0 ≤ x ∧ x < 256) (i : Nat) : (strOfNums r).extract i (strOfNums r).size = strOfNums (r.drop i) := by
  rw [so_cut r hr, strOfNums_size, List.take_length]
/-- a line's end -/
def endR : List Int → Int × List Int
  | [] => (1, [])
  | a :: t => if a = 13 then (match t with | [] => (1, []) | b :: u => if b = 10 then (0, u) else (400, b :: u)) else (400, a :: t)
theorem endR_zero {r : List Int} (h : (endR r).1 = 0) : r = 13 :: 10 :: (endR r).2 := by
  match r, h with
  | [], h => simp [endR] at h
  | [a], h => by_cases q : a = 13 <;> simp [endR, q] at h
  | a :: b :: u, h =>
    by_cases q : a = 13
    · by_cases q1 : b = 10
      · simp [endR, q, q1]
      · simp [endR, q, q1] at h
    · simp [endR, q] at h
theorem end_stop (i : Int) (s : ByteArray) (c : Int) (hc : c ≠ 0) : Ev (fun k => impl_chunks_end.l0 k i s c) (s, c) := by
  have hj : Ev (fun k => impl_chunks_end.j1 k i false s c) (s, c) := by
    apply ev_succ; simp only [impl_chunks_end.j1, Bool.false_eq_true, if_false]; exact Ev.now _
  apply ev_succ
  simp only [impl_chunks_end.l0, beq_eq_false_iff_ne.2 hc]
  exact ev_ite (fun _ => hj) (fun _ => hj)
theorem end_two (s : ByteArray) (c : Int) : Ev (fun k => impl_chunks_end.l0 k 2 s c) (s, c) := by
  apply ev_succ
  simp only [impl_chunks_end.l0, if_neg (show ¬ (2 : Int) < 2 by omega)]
  apply ev_succ; simp only [impl_chunks_end.j1, Bool.false_eq_true, if_false]; exact Ev.now _
theorem end_step (i b : Int) (hi0 : 0 ≤ i) (hi : i < 2) (hb : bt (⟨#[13, 10]⟩ : ByteArray) i = b) (r : List Int) (hr : ∀ x ∈ r, 0 ≤ x ∧ x < 256) (X : ByteArray × Int)
    (h0 : r = [] → X = (strOfNums r, 1)) (h1 : ∀ a t, r = a :: t → a ≠ b → X = (strOfNums r, 400))
    (h2 : ∀ t, r = b :: t → Ev (fun k => impl_chunks_end.l0 k (i + 1) (strOfNums t) 0) X) : Ev (fun k => impl_chunks_end.l0 k i (strOfNums r) 0) X := by
  have hw : wrap64 (i + 1) = i + 1 := wrap_id (by omega) (by omega)
  apply ev_succ
  simp only [impl_chunks_end.l0, if_pos hi, beq_self_eq_true]
  apply ev_succ
  simp only [impl_chunks_end.j1, if_true, hw, hb, if_pos hi0, if_pos hi]
  refine ev_ite (fun q => ?_) (fun q => ?_)
  · rw [so_nil] at q
    rw [h0 q]; exact end_stop _ _ _ (by omega)
  · rw [so_nil] at q
    match hm : r, q with
    | a :: t, _ =>
      have hs : (strOfNums (a :: t)).size = t.length + 1 := by rw [strOfNums_size]; rfl
      simp only [hs, if_pos (show (0 : Int) < ((t.length + 1 : Nat) : Int) by omega), so_bt hr rfl, if_pos (show (1 : Int) ≤ ((t.length + 1 : Nat) : Int) by omega)]
      refine ev_ite (fun q1 => ?_) (fun q1 => ?_)
      · subst q1
        have e := so_from (a :: t) hr 1
        rw [hs] at e
        rw [e]
        exact h2 t rfl
      · rw [h1 a t rfl q1]; exact end_stop _ _ _ (by omega)
theorem end_ev (r : List Int) (hr : ∀ x ∈ r, 0 ≤ x ∧ x < 256) : Ev (fun k => impl_chunks_end.f k (strOfNums r) 0) (strOfNums (endR r).2, (endR r).1) := by
  unfold impl_chunks_end.f
  refine end_step 0 13 (by omega) (by omega) rfl r hr _ (fun h => by rw [h]; rfl) (fun a t h q => by rw [h]; simp [endR, q]) (fun t h => ?_)
  have ht : ∀ x ∈ t, 0 ≤ x ∧ x < 256 := fun x hx => hr x (by rw [h]; simp [hx])
  refine end_step 1 10 (by omega) (by omega) rfl t ht _ (fun h1 => by rw [h, h1]; rfl) (fun a u h1 q => by rw [h, h1]; simp [endR, q]) (fun u h1 => ?_)
  rw [h, h1]
  exact end_two _ _
/-- a piece's length, as text, and what stands behind it -/
def tw (r : List Int) : List Int := r.takeWhile fun c => decide (c ≠ 13)
def dw (r : List Int) : List Int := r.dropWhile fun c => decide (c ≠ 13)
theorem tw_dw (r : List Int) : tw r ++ dw r = r := List.takeWhile_append_dropWhile
theorem index13 : ∀ (r : List Int), (∀ x ∈ r, 0 ≤ x ∧ x < 256) → Lib.index (r.map fun n => UInt8.ofNat n.toNat) [13] = if dw r = [] then -1 else ((tw r).length : Int)
  | [], _ => rfl
  | c :: r, hr => by
    have hc := hr c (by simp)
    have ih := index13 r (fun x hx => hr x (by simp [hx]))
    have e := u8_eq hc.1 hc.2 13 (by omega)
    rw [List.map_cons, Lib.index]
    have c13 : (13 : UInt8) = UInt8.ofNat 13 := rfl
    simp only [List.isPrefixOf, Bool.and_true]
    rw [c13, e]
    by_cases q : c = ((13 : Nat) : Int)
    · have q' : c = 13 := q
      rw [decide_eq_true q, if_pos rfl, q']
      simp [dw, tw]
    · have q' : c ≠ 13 := q
      rw [decide_eq_false q, if_neg (by simp), ← c13, ih]
      have e1 : dw (c :: r) = dw r := by simp [dw, q']
      have e2 : tw (c :: r) = c :: tw r := by simp [tw, q']
      rw [e1, e2]
      by_cases q1 : dw r = []
      · simp [q1]
      · rw [if_neg q1, if_neg q1]
        rw [if_neg (by simp only [beq_iff_eq]; omega)]
        simp
theorem cut13 (r : List Int) (hr : ∀ x ∈ r, 0 ≤ x ∧ x < 256) (hl : r.length < 4294967281) : ∃ x, strings_Cut.f (strOfNums r) (⟨#[13]⟩ : ByteArray) = some (strOfNums (tw r), x, decide (dw r ≠ [])) := by
  unfold strings_Cut.f
  rw [if_pos (by rw [strOfNums_size]; exact hl)]
  refine ⟨⟨(Lib.cut (strOfNums r).data.toList [13]).2.1.toArray⟩, ?_⟩
  congr 1
  have hi := index13 r hr
  have hs : (strOfNums r).data.toList = r.map fun n => UInt8.ofNat n.toNat := by rw [strOfNums_data]
  have h13 : ((⟨#[13]⟩ : ByteArray).data.toList) = [13] := rfl
  refine Prod.ext ?_ (Prod.ext rfl ?_)
  · show (⟨(Lib.cut _ _).1.toArray⟩ : ByteArray) = _
    apply ByteArray.ext
    rw [hs, h13]
    unfold Lib.cut
    rw [hi]
    by_cases q : dw r = []
    · have ht : tw r = r := by have := tw_dw r; rw [q, List.append_nil] at this; exact this
      rw [if_pos q, if_neg (by omega), ht]
      apply Array.toList_inj.mp
      rw [strOfNums_data]
    · rw [if_neg q, if_pos (by omega)]
      apply Array.toList_inj.mp
      rw [strOfNums_data]
      simp only [Int.toNat_natCast]
      rw [← List.map_take]
      congr 1
      have := @List.take_left _ (tw r) (dw r)
      rw [tw_dw] at this
      exact this
  · show (Lib.cut _ _).2.2 = _
    rw [hs, h13]
    unfold Lib.cut
    rw [hi]
    by_cases q : dw r = []
    · rw [if_pos q, if_neg (by omega)]; simp [q]
    · rw [if_neg q, if_pos (by omega)]; simp [q]
def sizeR (r : List Int) : Int × List Int × Int :=
  if dw r = [] then ((phL 0 0 (tw r)).1, r, if tw r = [] ∨ (phL 0 0 (tw r)).2 = true then 1 else 400)
  else if (phL 0 0 (tw r)).2 = true then ((phL 0 0 (tw r)).1, (endR (dw r)).2, (endR (dw r)).1) else ((phL 0 0 (tw r)).1, r, 400)
theorem tw_range {r : List Int} (hr : ∀ x ∈ r, 0 ≤ x ∧ x < 256) : ∀ x ∈ tw r, 0 ≤ x ∧ x < 256 := fun x hx => hr x (by rw [← tw_dw r]; exact List.mem_append_left _ hx)
theorem dw_range {r : List Int} (hr : ∀ x ∈ r, 0 ≤ x ∧ x < 256) : ∀ x ∈ dw r, 0 ≤ x ∧ x < 256 := fun x hx => hr x (by rw [← tw_dw r]; exact List.mem_append_right _ hx)
theorem tw_len (r : List Int) : (tw r).length + (dw r).length = r.length := by rw [← List.length_append, tw_dw]
theorem dw_eq (r : List Int) : r.drop (tw r).length = dw r := by
  have := @List.drop_left _ (tw r) (dw r)
  rw [tw_dw] at this
  exact this
theorem size_ev (r : List Int) (hr : ∀ x ∈ r, 0 ≤ x ∧ x < 256) (hl : r.length ≤ 1048576) : Ev (fun k => impl_chunks_size.f k (strOfNums r) 0) ((sizeR r).1, strOfNums (sizeR r).2.1, (sizeR r).2.2) := by
  obtain ⟨x, hx⟩ := cut13 r hr (by omega)
  have htl := tw_len r
  unfold impl_chunks_size.f
  simp only [hx, Option.bind_some]
  have hp := impl_ParseHex_ev (strOfNums (tw r)) (by rw [strOfNums_size]; omega)
  unfold parseHex at hp
  rw [so_bytes _ (tw_range hr)] at hp
  refine Ev.bind hp ?_
  have hts : (strOfNums (tw r)).size = (tw r).length := strOfNums_size _
  have hrs : (strOfNums r).size = r.length := strOfNums_size _
  by_cases q : dw r = []
  · simp only [q, ne_eq, not_true_eq_false, decide_false, Bool.false_eq_true, if_false]
    apply ev_succ
    simp only [impl_chunks_size.j0, Bool.false_eq_true, if_false]
    unfold sizeR
    rw [if_pos q]
    refine ev_iteB (fun q1 => ?_) (fun q1 => ?_)
    · have q1' : tw r = [] := by
        rw [← so_nil]; simpa using q1
      rw [if_pos (.inl q1')]; exact Ev.now _
    · have q1' : tw r ≠ [] := by
        rw [ne_eq, ← so_nil]; simpa using q1
      refine ev_iteB (fun q2 => ?_) (fun q2 => ?_)
      · rw [if_pos (.inr q2)]; exact Ev.now _
      · rw [if_neg (by simp [q1', q2])]; exact Ev.now _
  · simp only [ne_eq, q, not_false_eq_true, decide_true, if_true]
    apply ev_succ
    simp only [impl_chunks_size.j0, Bool.false_eq_true, if_false, if_true]
    unfold sizeR
    rw [if_neg q]
    refine ev_iteB (fun q2 => ?_) (fun q2 => ?_)
    · simp only [hts, hrs, if_pos (show (0 : Int) ≤ ((tw r).length : Int) by omega), if_pos (show ((tw r).length : Int) ≤ (r.length : Int) by omega)]
      have e := so_from r hr (tw r).length
      rw [hrs, dw_eq] at e
      rw [e, if_pos q2]
      exact Ev.bind (end_ev (dw r) (dw_range hr)) (Ev.now _)
    · rw [if_neg (by simp [q2])]; exact Ev.now _
theorem phL_range : ∀ (t : List Int) (i : Nat) (n : Int), i ≤ 4 → 0 ≤ n → n < 16 ^ i → 0 ≤ (phL i n t).1 ∧ (phL i n t).1 < 65536
  | [], i, n, h, h0, h1 => by have := pow16 h; simp only [phL]; omega
  | c :: r, i, n, h, h0, h1 => by
    have hd := hexC_range c
    have := pow16 h
    unfold phL
    split
    · simp
    · split
      · simp
      · rename_i q q4
        exact phL_range r (i + 1) _ (by omega) (by omega) (by rw [Int.pow_succ]; omega)
theorem impl_j1_bad (l : List Int) (x : ByteArray) (n : Int) (s : ByteArray) (c : Int) (hc : c ≠ 0) : Ev (fun k => impl_GetChunks.j1 k l x n s c) ((⟨#[]⟩ : ByteArray), 0, c) := by
  apply ev_succ
  simp only [impl_GetChunks.j1, if_neg hc]
  exact Ev.now _
theorem phL_range0 (t : List Int) : 0 ≤ (phL 0 0 t).1 ∧ (phL 0 0 t).1 < 65536 := phL_range t 0 0 (by omega) (by omega) (by simp)
theorem sizeR_n (r : List Int) : (sizeR r).1 = (phL 0 0 (tw r)).1 := by
  unfold sizeR
  split
  · rfl
  · split <;> rfl
theorem sizeR_good {r : List Int} (h : (sizeR r).2.2 = 0) : dw r = 13 :: 10 :: (sizeR r).2.1 := by
  unfold sizeR at h ⊢
  by_cases q : dw r = []
  · rw [if_pos q] at h
    simp only at h
    split at h <;> omega
  · rw [if_neg q] at h ⊢
    by_cases q1 : (phL 0 0 (tw r)).2 = true
    · rw [if_pos q1] at h ⊢
      exact endR_zero h
    · rw [if_neg q1] at h
      simp at h
/-! what is read of a body in pieces: the body, what stands behind, a code; and what more bytes behind change -/
def chR : Nat → List Int → List Int → List Int × List Int × Int
  | 0, _, _ => ([], [], 1)
  | n + 1, r, x =>
    if (sizeR r).2.2 ≠ 0 then ([], [], (sizeR r).2.2)
    else if 200 < x.length + (sizeR r).1.toNat then ([], [], 413)
    else if (sizeR r).2.1.length < (sizeR r).1.toNat then ([], [], 1)
    else if (endR ((sizeR r).2.1.drop (sizeR r).1.toNat)).1 ≠ 0 then ([], [], (endR ((sizeR r).2.1.drop (sizeR r).1.toNat)).1)
    else if (sizeR r).1.toNat = 0 then (x, (endR ((sizeR r).2.1.drop (sizeR r).1.toNat)).2, 0)
    else chR n (endR ((sizeR r).2.1.drop (sizeR r).1.toNat)).2 (x ++ (sizeR r).2.1.take (sizeR r).1.toNat)
theorem endR_app (r y : List Int) : ((endR r).1 = 0 → endR (r ++ y) = (0, (endR r).2 ++ y)) ∧ ((endR r).1 = 400 → (endR (r ++ y)).1 = 400) ∧ ((endR r).1 = 0 ∨ (endR r).1 = 1 ∨ (endR r).1 = 400) := by
  match r with
  | [] => exact ⟨fun h => by simp [endR] at h, fun h => by simp [endR] at h, .inr (.inl rfl)⟩
  | [a] =>
    by_cases q : a = 13
    · exact ⟨fun h => by simp [endR, q] at h, fun h => by simp [endR, q] at h, .inr (.inl (by simp [endR, q]))⟩
    · exact ⟨fun h => by simp [endR, q] at h, fun _ => by simp [endR, q], .inr (.inr (by simp [endR, q]))⟩
  | a :: b :: u =>
    by_cases q : a = 13
    · by_cases q1 : b = 10
      · exact ⟨fun _ => by simp [endR, q, q1], fun h => by simp [endR, q, q1] at h, .inl (by simp [endR, q, q1])⟩
      · exact ⟨fun h => by simp [endR, q, q1] at h, fun _ => by simp [endR, q, q1], .inr (.inr (by simp [endR, q, q1]))⟩
    · exact ⟨fun h => by simp [endR, q] at h, fun _ => by simp [endR, q], .inr (.inr (by simp [endR, q]))⟩
theorem endR_more {r : List Int} (h : (endR r).1 = 1) : r.length ≤ 1 := by
  match r, h with
  | [], _ => simp
  | [a], _ => simp
  | a :: b :: u, h =>
    by_cases q : a = 13
    · by_cases q1 : b = 10 <;> simp [endR, q, q1] at h
    · simp [endR, q] at h
theorem endR_len {r : List Int} (h : (endR r).1 = 0) : r.length = (endR r).2.length + 2 := by
  have := congrArg List.length (endR_zero h)
  simpa using this
theorem phL_bad : ∀ (t y : List Int) (i : Nat) (n : Int), t ≠ [] → (phL i n t).2 = false → (phL i n (t ++ y)).2 = false
  | [], _, _, _, h, _ => absurd rfl h
  | c :: t, y, i, n, _, h => by
    rw [List.cons_append, phL]
    rw [phL] at h
    by_cases q : hexC c < 0
    · rw [if_pos q]
    rw [if_neg q] at h ⊢
    by_cases q1 : i ≥ 4
    · rw [if_pos q1]
    rw [if_neg q1] at h ⊢
    cases t with
    | nil => simp [phL] at h
    | cons d u => exact phL_bad (d :: u) y (i + 1) _ (by simp) h
theorem tw_app (r y : List Int) : (dw r = [] → tw (r ++ y) = tw r ++ tw y ∧ tw r = r ∧ dw (r ++ y) = dw y) ∧ (dw r ≠ [] → tw (r ++ y) = tw r ∧ dw (r ++ y) = dw r ++ y) := by
  induction r with
  | nil => simp [tw, dw]
  | cons c r ih =>
    by_cases q : c = 13
    · simp [tw, dw, q]
    · have e1 : ∀ z : List Int, tw (c :: z) = c :: tw z := fun z => by simp [tw, q]
      have e2 : ∀ z : List Int, dw (c :: z) = dw z := fun z => by simp [dw, q]
      simp only [List.cons_append, e1, e2]
      refine ⟨fun h => ?_, fun h => ?_⟩
      · obtain ⟨h1, h2, h3⟩ := ih.1 h
        exact ⟨by rw [h1], by rw [h2], h3⟩
      · obtain ⟨h1, h2⟩ := ih.2 h
        exact ⟨by rw [h1], h2⟩
theorem sizeR_app (r y : List Int) : ((sizeR r).2.2 = 0 → sizeR (r ++ y) = ((sizeR r).1, (sizeR r).2.1 ++ y, 0)) ∧ ((sizeR r).2.2 = 400 → (sizeR (r ++ y)).2.2 = 400) ∧ ((sizeR r).2.2 = 0 ∨ (sizeR r).2.2 = 1 ∨ (sizeR r).2.2 = 400) := by
  obtain ⟨t1, t2⟩ := tw_app r y
  by_cases q : dw r = []
  · obtain ⟨h1, h2, h3⟩ := t1 q
    have e : sizeR r = ((phL 0 0 (tw r)).1, r, if tw r = [] ∨ (phL 0 0 (tw r)).2 = true then 1 else 400) := by unfold sizeR; rw [if_pos q]
    rw [e]
    simp only []
    by_cases q1 : tw r = [] ∨ (phL 0 0 (tw r)).2 = true
    · rw [if_pos q1]
      exact ⟨fun h => absurd h (by decide), fun h => absurd h (by decide), .inr (.inl rfl)⟩
    · rw [if_neg q1]
      refine ⟨fun h => absurd h (by decide), fun _ => ?_, .inr (.inr rfl)⟩
      rw [not_or] at q1
      have hb := phL_bad (tw r) (tw y) 0 0 q1.1 (by simpa using q1.2)
      rw [← h1] at hb
      unfold sizeR
      have hne : tw (r ++ y) ≠ [] := by rw [h1]; simp [q1.1]
      split
      · simp only []
        rw [if_neg (by rw [hb]; simp [hne])]
      · rw [if_neg (by rw [hb]; simp)]
  · obtain ⟨h1, h2⟩ := t2 q
    obtain ⟨a1, a2, a3⟩ := endR_app (dw r) y
    have q' : ¬ dw (r ++ y) = [] := by rw [h2]; simp [q]
    by_cases q1 : (phL 0 0 (tw r)).2 = true
    · have e : sizeR r = ((phL 0 0 (tw r)).1, (endR (dw r)).2, (endR (dw r)).1) := by unfold sizeR; rw [if_neg q, if_pos q1]
      have e' : sizeR (r ++ y) = ((phL 0 0 (tw r)).1, (endR (dw r ++ y)).2, (endR (dw r ++ y)).1) := by unfold sizeR; rw [if_neg q', h1, if_pos q1, h2]
      rw [e, e']
      simp only []
      refine ⟨fun h => by rw [a1 h], a2, a3⟩
    · have e : sizeR r = ((phL 0 0 (tw r)).1, r, 400) := by unfold sizeR; rw [if_neg q, if_neg q1]
      have e' : sizeR (r ++ y) = ((phL 0 0 (tw r)).1, r ++ y, 400) := by unfold sizeR; rw [if_neg q', h1, if_neg q1]
      rw [e, e']
      exact ⟨fun h => absurd (show (400 : Int) = 0 from h) (by decide), fun _ => rfl, .inr (.inr rfl)⟩
theorem sizeR_len {r : List Int} (h : (sizeR r).2.2 = 0) : (sizeR r).2.1.length + 2 ≤ r.length := by
  have h1 := congrArg List.length (sizeR_good h)
  have h2 := tw_len r
  simp only [List.length_cons] at h1
  omega
theorem sizeR_more {r y : List Int} (h : (sizeR r).2.2 = 1) (h0 : (sizeR (r ++ y)).2.2 = 0) : (sizeR (r ++ y)).2.1.length < y.length := by
  obtain ⟨t1, t2⟩ := tw_app r y
  by_cases q : dw r = []
  · obtain ⟨h1, h2, h3⟩ := t1 q
    have hg := sizeR_good h0
    rw [h3] at hg
    have h5 := congrArg List.length hg
    have h6 := tw_len y
    simp only [List.length_cons] at h5
    omega
  · obtain ⟨h1, h2⟩ := t2 q
    have q' : ¬ dw (r ++ y) = [] := by rw [h2]; simp [q]
    by_cases q1 : (phL 0 0 (tw r)).2 = true
    · have e : sizeR r = ((phL 0 0 (tw r)).1, (endR (dw r)).2, (endR (dw r)).1) := by unfold sizeR; rw [if_neg q, if_pos q1]
      rw [e] at h
      have h5 := endR_more h
      have hg := sizeR_good h0
      rw [h2] at hg
      have h6 := congrArg List.length hg
      simp only [List.length_append, List.length_cons] at h6
      omega
    · have e : sizeR r = ((phL 0 0 (tw r)).1, r, 400) := by unfold sizeR; rw [if_neg q, if_neg q1]
      rw [e] at h
      exact absurd (show (400 : Int) = 1 from h) (by decide)
theorem chR_len : ∀ (n : Nat) (r x : List Int), (chR n r x).2.2 = 0 → (chR n r x).2.1.length ≤ r.length
  | 0, r, x, h => by simp [chR] at h
  | n + 1, r, x, h => by
    rw [chR] at h ⊢
    by_cases c0 : (sizeR r).2.2 = 0
    · have el := sizeR_len c0
      rw [if_neg (fun h => h c0)] at h ⊢
      generalize (sizeR r).1.toNat = k at h ⊢
      generalize (sizeR r).2.1 = t at h el ⊢
      by_cases c1 : 200 < x.length + k
      · rw [if_pos c1] at h; exact absurd h (by decide)
      rw [if_neg c1] at h ⊢
      by_cases c2 : t.length < k
      · rw [if_pos c2] at h; exact absurd h (by decide)
      rw [if_neg c2] at h ⊢
      by_cases c4 : (endR (t.drop k)).1 = 0
      · rw [if_neg (fun h => h c4)] at h ⊢
        have h5 := endR_len c4
        rw [List.length_drop] at h5
        by_cases c6 : k = 0
        · rw [if_pos c6]; simp only []; omega
        · rw [if_neg c6] at h ⊢
          have := chR_len n _ _ h
          omega
      · rw [if_pos c4] at h; exact absurd h c4
    · rw [if_pos c0] at h; exact absurd h c0
/-- what more bytes behind change -/
theorem chR_app : ∀ (n m : Nat) (r x y : List Int), r.length < n → (r ++ y).length < m →
    ((chR n r x).2.2 = 0 → chR m (r ++ y) x = ((chR n r x).1, (chR n r x).2.1 ++ y, 0)) ∧
    ((chR n r x).2.2 ≠ 0 → (chR n r x).2.2 ≠ 1 → (chR m (r ++ y) x).2.2 = (chR n r x).2.2) ∧
    ((chR n r x).2.2 = 1 → (chR m (r ++ y) x).2.2 = 0 → (chR m (r ++ y) x).2.1.length < y.length)
  | 0, _, r, _, _, h, _ => by omega
  | _ + 1, 0, r, _, y, _, h => by omega
  | n + 1, m + 1, r, x, y, hn, hm => by
    obtain ⟨s0, s4, sc⟩ := sizeR_app r y
    rw [chR, chR]
    by_cases c0 : (sizeR r).2.2 = 0
    · rw [if_neg (fun h => h c0)]
      have e := s0 c0
      have el := sizeR_len c0
      rw [e]
      simp only [ne_eq, not_true_eq_false, if_false]
      generalize (sizeR r).1.toNat = k
      generalize hT : (sizeR r).2.1 = t at el
      clear s0 s4 sc c0 e hT
      by_cases c1 : 200 < x.length + k
      · rw [if_pos c1, if_pos c1]
        exact ⟨fun h => absurd h (by decide), fun _ _ => rfl, fun h => absurd h (by decide)⟩
      rw [if_neg c1, if_neg c1]
      by_cases c2 : t.length < k
      · rw [if_pos c2]
        refine ⟨fun h => absurd h (by decide), fun _ h => absurd rfl h, fun _ => ?_⟩
        by_cases c3 : (t ++ y).length < k
        · rw [if_pos c3]; exact fun h => absurd h (by decide)
        rw [if_neg c3]
        have ed : (t ++ y).drop k = y.drop (k - t.length) := by rw [List.drop_append, List.drop_eq_nil_of_le (by omega)]; rfl
        rw [ed]
        by_cases c4 : (endR (y.drop (k - t.length))).1 = 0
        · rw [if_neg (fun h => h c4)]
          have h5 := endR_len c4
          rw [List.length_drop] at h5
          rw [List.length_append] at c3
          by_cases c6 : k = 0
          · omega
          rw [if_neg c6]
          intro h7
          have h8 := (chR_len m (endR (y.drop (k - t.length))).2 (x ++ (t ++ y).take k) h7)
          omega
        · rw [if_pos c4]; intro h; exact absurd h c4
      have c3 : ¬ (t ++ y).length < k := by rw [List.length_append]; omega
      rw [if_neg c2, if_neg c3]
      have ed : (t ++ y).drop k = t.drop k ++ y := by rw [List.drop_append_of_le_length (by omega)]
      have et : (t ++ y).take k = t.take k := by rw [List.take_append_of_le_length (by omega)]
      rw [ed, et]
      obtain ⟨a0, a4, ac⟩ := endR_app (t.drop k) y
      by_cases c4 : (endR (t.drop k)).1 = 0
      · have h5 := endR_len c4
        rw [List.length_drop] at h5
        rw [if_neg (fun h => h c4), a0 c4]
        simp only [ne_eq, not_true_eq_false, if_false]
        by_cases c6 : k = 0
        · rw [if_pos c6, if_pos c6]
          exact ⟨fun _ => rfl, fun h => absurd rfl h, fun h => absurd (show (0 : Int) = 1 from h) (by decide)⟩
        · rw [if_neg c6, if_neg c6]
          have hm' : ((endR (t.drop k)).2 ++ y).length < m := by rw [List.length_append] at hm ⊢; omega
          exact chR_app n m (endR (t.drop k)).2 (x ++ t.take k) y (by omega) hm'
      · rw [if_pos c4]
        refine ⟨fun h => absurd h c4, fun h0 h1 => ?_, fun h => ?_⟩
        · have h4 : (endR (t.drop k)).1 = 400 := by simp only [] at h0 h1; omega
          rw [if_pos (by rw [a4 h4]; decide), a4 h4, h4]
        · have h6 := endR_more h
          rw [List.length_drop] at h6
          by_cases c5 : (endR (t.drop k ++ y)).1 = 0
          · rw [if_neg (fun h => h c5)]
            have h7 := endR_len c5
            rw [List.length_append, List.length_drop] at h7
            by_cases c6 : k = 0
            · rw [if_pos c6]; intro _; simp only []; omega
            · rw [if_neg c6]
              intro h8
              have h9 := chR_len m _ _ h8
              omega
          · rw [if_pos c5]; intro h8; exact absurd h8 c5
    · rw [if_pos c0]
      refine ⟨fun h => absurd h c0, fun h0 h1 => ?_, fun h => ?_⟩
      · have h4 : (sizeR r).2.2 = 400 := by simp only [] at h1; omega
        rw [if_pos (by rw [s4 h4]; decide), s4 h4, h4]
      · by_cases c5 : (sizeR (r ++ y)).2.2 = 0
        · have h6 := sizeR_more h c5
          rw [if_neg (fun h => h c5)]
          generalize (sizeR (r ++ y)).1.toNat = k
          generalize (sizeR (r ++ y)).2.1 = t at h6
          split
          · intro h; exact absurd h (by decide)
          · split
            · intro h; exact absurd h (by decide)
            · by_cases c7 : (endR (t.drop k)).1 = 0
              · rw [if_neg (fun h => h c7)]
                have h7 := endR_len c7
                rw [List.length_drop] at h7
                split
                · intro _; simp only []; omega
                · intro h8
                  have h9 := chR_len m _ _ h8
                  omega
              · rw [if_pos c7]; intro h8; exact absurd h8 c7
        · rw [if_pos c5]; intro h8; exact absurd h8 c5

def chV (l : List Int) (r : List Int × List Int × Int) : ByteArray × Int × Int := if r.2.2 = 0 then (strOfNums r.1, (l.length : Int) - (r.2.1.length : Int), 0) else ((⟨#[]⟩ : ByteArray), 0, r.2.2)
theorem chV_bad (l a b : List Int) {c : Int} (h : c ≠ 0) : chV l (a, b, c) = ((⟨#[]⟩ : ByteArray), 0, c) := by unfold chV; rw [if_neg h]
theorem chV_good (l a b : List Int) : chV l (a, b, 0) = (strOfNums a, (l.length : Int) - (b.length : Int), 0) := by unfold chV; rw [if_pos rfl]
theorem so_app (a b : List Int) (ha : ∀ x ∈ a, 0 ≤ x ∧ x < 256) (hb : ∀ x ∈ b, 0 ≤ x ∧ x < 256) : strOfNums a ++ strOfNums b = strOfNums (a ++ b) := by
  apply bytesOf_inj
  rw [bytesOf_append, bytesOf_strOfNums a ha, bytesOf_strOfNums b hb, bytesOf_strOfNums (a ++ b) (fun x hx => (List.mem_append.1 hx).elim (ha x) (hb x))]
theorem chunks_impl (l : List Int) (hl : l.length ≤ 1048576) : ∀ (n : Nat) (R x : List Int), R.length < n → R.length ≤ l.length → (∀ z ∈ R, 0 ≤ z ∧ z < 256) → (∀ z ∈ x, 0 ≤ z ∧ z < 256) → x.length ≤ 200 → Ev (fun k => impl_GetChunks.l0 k l (strOfNums x) (strOfNums R) 0) (chV l (chR n R x))
  | 0, R, x, h, _, _, _, _ => by omega
  | n + 1, R, x, hn, hR, hr, hxr, hx => by
    have hsz := size_ev R hr (by omega)
    rw [chR]
    apply ev_succ
    simp only [impl_GetChunks.l0]
    refine Ev.bind hsz ?_
    by_cases hc : (sizeR R).2.2 = 0
    · rw [if_neg (fun h => h hc)]
      have hlen := sizeR_len hc
      have hn0 := phL_range0 (tw R)
      rw [← sizeR_n] at hn0
      have htr : ∀ z ∈ (sizeR R).2.1, 0 ≤ z ∧ z < 256 := fun z hz => dw_range hr z (by rw [sizeR_good hc]; simp [hz])
      obtain ⟨m, hm⟩ : ∃ m : Nat, (sizeR R).1 = (m : Int) := ⟨(sizeR R).1.toNat, by omega⟩
      simp only [hc, if_true, hm, Int.toNat_natCast]
      rw [hm] at hn0
      generalize (sizeR R).2.1 = t at hlen htr
      clear hsz hc hm
      have hw : wrap64 (((strOfNums x).size : Int) + (m : Int)) = ((x.length + m : Nat) : Int) := by rw [strOfNums_size, wrap_id (by omega) (by omega)]; omega
      have hwl : ∀ u : List Int, u.length ≤ l.length → wrap64 ((l.length : Int) - ((strOfNums u).size : Int)) = (l.length : Int) - (u.length : Int) := by
        intro u hu; rw [strOfNums_size, wrap_id (by omega) (by omega)]
      have hts : (strOfNums t).size = t.length := strOfNums_size t
      have hxs : (strOfNums x).size = x.length := strOfNums_size x
      simp only [hw, hts]
      by_cases q1 : 200 < x.length + m
      · rw [if_pos q1, chV_bad _ _ _ (by decide)]
        simp only [if_pos (show ((x.length + m : Nat) : Int) > 200 by omega)]
        exact impl_j1_bad _ _ _ _ _ (by decide)
      rw [if_neg q1]
      simp only [if_neg (show ¬ ((x.length + m : Nat) : Int) > 200 by omega)]
      by_cases q2 : t.length < m
      · rw [if_pos q2, chV_bad _ _ _ (by decide)]
        simp only [if_pos (show (m : Int) > (t.length : Int) by omega)]
        exact impl_j1_bad _ _ _ _ _ (by decide)
      rw [if_neg q2]
      have e1 : (strOfNums t).extract 0 m = strOfNums (t.take m) := by rw [so_cut _ htr]; rfl
      have e2 : (strOfNums t).extract m t.length = strOfNums (t.drop m) := by
        have := so_from _ htr m
        rw [strOfNums_size] at this
        exact this
      have hsz1 : (strOfNums (t.take m)).size = m := by rw [strOfNums_size, List.length_take]; omega
      have hend := end_ev (t.drop m) (fun z hz => htr z (List.mem_of_mem_drop hz))
      simp only [if_neg (show ¬ (m : Int) > (t.length : Int) by omega), if_pos (show (0 : Int) ≤ (m : Int) by omega), if_pos (show (m : Int) ≤ (t.length : Int) by omega), e1, e2, hsz1, hxs, if_pos (show x.length + m ≤ 9223372036854775807 by omega)]
      refine Ev.bind hend ?_
      have e3 : strOfNums x ++ strOfNums (t.take m) = strOfNums (x ++ t.take m) := so_app _ _ hxr (fun z hz => htr z (List.mem_of_mem_take hz))
      simp only [e3]
      by_cases q3 : (endR (t.drop m)).1 = 0
      · rw [if_neg (fun h => h q3)]
        have h5 := endR_len q3
        have hz := endR_zero q3
        have hur : ∀ z ∈ (endR (t.drop m)).2, 0 ≤ z ∧ z < 256 := fun z hz' => htr z (List.mem_of_mem_drop (i := m) (by rw [hz]; simp [hz']))
        rw [List.length_drop] at h5
        rw [q3]
        generalize (endR (t.drop m)).2 = u at h5 hur
        clear hend hz q3
        apply ev_succ
        simp only [impl_GetChunks.j1, if_true]
        by_cases q4 : m = 0
        · rw [if_pos q4, chV_good]
          subst q4
          simp only [if_pos (show ((0 : Nat) : Int) = 0 from rfl), List.take_zero, List.append_nil]
          rw [hwl u (by omega)]
          exact Ev.now _
        · rw [if_neg q4]
          simp only [if_neg (show ¬ (m : Int) = 0 by omega)]
          refine chunks_impl l hl n u (x ++ t.take m) (by omega) (by omega) hur ?_ (by rw [List.length_append, List.length_take]; omega)
          intro z hz
          rcases List.mem_append.1 hz with hz | hz
          · exact hxr z hz
          · exact htr z (List.mem_of_mem_take hz)
      · rw [if_pos q3, chV_bad _ _ _ q3]
        exact impl_j1_bad _ _ _ _ _ q3
    · rw [if_pos hc, chV_bad _ _ _ hc]
      simp only [if_neg hc]
      exact impl_j1_bad _ _ _ _ _ hc
theorem GetChunks_impl (l : List Int) (hl : l.length ≤ 1048576) (hr : ∀ x ∈ l, 0 ≤ x ∧ x < 256) (p : Nat) (hp : p ≤ l.length) (n : Nat) (hn : (l.drop p).length < n) : Ev (fun k => impl_GetChunks.f k l (p : Int)) (chV l (chR n (l.drop p) [])) := by
  unfold impl_GetChunks.f
  simp only [in_eq, Option.bind_some, decide_eq_true (show (0 : Int) ≤ (p : Int) by omega), decide_eq_true (show (p : Int) ≤ (l.length : Int) by omega), Bool.and_self, if_true, if_pos (show (0 : Int) ≤ (p : Int) by omega), if_pos (show (p : Int) ≤ (l.length : Int) by omega), Int.toNat_natCast]
  exact chunks_impl l hl n (l.drop p) [] hn (by rw [List.length_drop]; omega) (fun z hz => hr z (List.mem_of_mem_drop hz)) (by simp) (by simp)

theorem data_bytesB (s : ByteArray) : s.data.toList = (bytesOf s).map fun n => UInt8.ofNat n.toNat := by
  have h := congrArg (fun b : ByteArray => b.data.toList) (strOfNums_bytesOf s)
  simp only [strOfNums_data] at h
  exact h.symm

/-- a text's lines; cur: the line that is open -/
def splC : List Int → List Int → List (List Int)
  | cur, [] => [cur]
  | cur, [c] => [cur ++ [c]]
  | cur, c :: d :: r => if c = 13 ∧ d = 10 then cur :: splC [] r else splC (cur ++ [c]) (d :: r)
def linesC (l : List Int) : List ByteArray := (splC [] l).map strOfNums
/-- the place of the first line's end; none: there is none -/
def fnd2 : List Int → Option Nat
  | [] => none
  | [_] => none
  | c :: d :: r => if c = 13 ∧ d = 10 then some 0 else (fnd2 (d :: r)).map (· + 1)
theorem splC_cut : ∀ (l cur : List Int), splC cur l = match fnd2 l with
    | none => [cur ++ l]
    | some i => (cur ++ l.take i) :: splC [] (l.drop (i + 2))
  | [], cur => by simp [splC, fnd2]
  | [c], cur => by simp [splC, fnd2]
  | c :: d :: r, cur => by
    rw [splC, fnd2]
    by_cases q : c = 13 ∧ d = 10
    · rw [if_pos q, if_pos q]; simp
    · rw [if_neg q, if_neg q, splC_cut (d :: r) (cur ++ [c])]
      cases h : fnd2 (d :: r) with
      | none => simp
      | some i => simp
theorem fnd2_le : ∀ (l : List Int) (i : Nat), fnd2 l = some i → i + 2 ≤ l.length
  | [], i, h => by simp [fnd2] at h
  | [c], i, h => by simp [fnd2] at h
  | c :: d :: r, i, h => by
    rw [fnd2] at h
    split at h
    · injection h with h; subst h; simp
    · cases h2 : fnd2 (d :: r) with
      | none => rw [h2] at h; cases h
      | some j =>
        rw [h2] at h
        simp only [Option.map_some, Option.some.injEq] at h
        have h3 := fnd2_le (d :: r) j h2
        simp only [List.length_cons] at h3 ⊢
        omega
theorem pre2 (t : List Int) (hr : ∀ x ∈ t, 0 ≤ x ∧ x < 256) : ([13, 10] : List UInt8).isPrefixOf (t.map fun n => UInt8.ofNat n.toNat) = decide (t.take 2 = [13, 10]) := by
  match t, hr with
  | [], _ => rfl
  | [a], _ => simp [List.isPrefixOf]
  | a :: b :: r, hr =>
    have ha := hr a (by simp); have hb := hr b (by simp)
    have e1 := u8_eq ha.1 ha.2 13 (by omega); have e2 := u8_eq hb.1 hb.2 10 (by omega)
    simp only [List.map_cons, List.isPrefixOf, Bool.and_true]
    have c13 : (13 : UInt8) = UInt8.ofNat 13 := rfl
    have c10 : (10 : UInt8) = UInt8.ofNat 10 := rfl
    rw [c13, c10, e1, e2]
    rw [Bool.eq_iff_iff]
    simp
theorem index_fnd2 : ∀ (t : List Int), (∀ x ∈ t, 0 ≤ x ∧ x < 256) → Lib.index (t.map fun n => UInt8.ofNat n.toNat) [13, 10] = match fnd2 t with
    | none => (-1 : Int)
    | some i => (i : Int)
  | [], _ => rfl
  | [c], hr => by
    have hp := pre2 [c] hr
    simp only [List.map_cons, List.map_nil] at hp ⊢
    rw [Lib.index, hp]
    simp [fnd2, Lib.index]
  | c :: d :: r, hr => by
    have hp := pre2 (c :: d :: r) hr
    have ih := index_fnd2 (d :: r) (fun x hx => hr x (by simp [hx]))
    rw [List.map_cons] at hp ⊢
    rw [Lib.index, hp, fnd2, ih]
    by_cases q : c = 13 ∧ d = 10
    · rw [if_pos q, q.1, q.2]; rfl
    · rw [if_neg q, decide_eq_false (by simpa using q)]
      cases h : fnd2 (d :: r) with
      | none => rfl
      | some i =>
        simp only [Option.map_some, Bool.false_eq_true, if_false]
        rw [if_neg (by simp only [beq_iff_eq]; omega)]
        simp
theorem indexC (s : ByteArray) : Lib.indexB s ⟨#[13, 10]⟩ = match fnd2 (bytesOf s) with
    | none => (-1 : Int)
    | some i => (i : Int) := by
  show Lib.index s.data.toList [13, 10] = _
  rw [data_bytesB, index_fnd2 _ (bytesOf_range s)]
theorem splitB_linesC : ∀ (n : Nat) (s : ByteArray), s.size ≤ n → Lib.splitB ⟨#[13, 10]⟩ 0 (Lib.countB s ⟨#[13, 10]⟩) s = linesC (bytesOf s) := by
  intro n
  induction n with
  | zero =>
    intro s h
    have h0 : bytesOf s = [] := List.eq_nil_of_length_eq_zero (by rw [bytesOf_length]; omega)
    have hi : Lib.indexB s ⟨#[13, 10]⟩ = -1 := by rw [indexC, h0]; rfl
    rw [Lib.splitB_miss _ _ _ _ hi]
    unfold linesC
    rw [h0]
    have : s = strOfNums [] := by rw [← h0, strOfNums_bytesOf]
    rw [this]; rfl
  | succ n ih =>
    intro s h
    have hi := indexC s
    unfold linesC
    rw [splC_cut]
    cases q : fnd2 (bytesOf s) with
    | none =>
      rw [q] at hi
      rw [Lib.splitB_miss _ _ _ _ hi]
      simp [strOfNums_bytesOf]
    | some i =>
      rw [q] at hi
      simp only [] at hi ⊢
      have hle := fnd2_le _ _ q
      rw [bytesOf_length] at hle
      have h1 : 1 ≤ (⟨#[13, 10]⟩ : ByteArray).size := by decide
      rw [Lib.countB_hit s ⟨#[13, 10]⟩ _ h1 hi, Nat.add_comm, Lib.splitB_hit _ _ _ _ _ hi]
      have e1 : bytesOf (s.extract (i + (⟨#[13, 10]⟩ : ByteArray).size) s.size) = (bytesOf s).drop (i + 2) := by
        rw [bytesOf_extract, List.take_of_length_le (by rw [bytesOf_length]; exact Nat.le_refl _)]
        rfl
      have e2 : s.extract 0 (i + 0) = strOfNums ((bytesOf s).take i) := by
        apply bytesOf_inj
        rw [bytesOf_extract, Nat.add_zero, List.drop_zero, bytesOf_strOfNums]
        intro x hx
        exact bytesOf_range s x (List.mem_of_mem_take hx)
      have hsz : (s.extract (i + (⟨#[13, 10]⟩ : ByteArray).size) s.size).size ≤ n := by
        rw [size_len, e1, List.length_drop, bytesOf_length]; omega
      rw [ih _ hsz, e1, e2]
      simp [linesC]
theorem pre4 (t : List Int) (hr : ∀ x ∈ t, 0 ≤ x ∧ x < 256) : ([13, 10, 13, 10] : List UInt8).isPrefixOf (t.map fun n => UInt8.ofNat n.toNat) = decide (t.take 4 = [13, 10, 13, 10]) := by
  match t, hr with
  | [], _ => rfl
  | [a], _ => simp [List.isPrefixOf]
  | [a, b], _ => simp [List.isPrefixOf]
  | [a, b, c], _ => simp [List.isPrefixOf]
  | a :: b :: c :: d :: r, hr =>
    have ha := hr a (by simp); have hb := hr b (by simp); have hc := hr c (by simp); have hd := hr d (by simp)
    have e1 := u8_eq ha.1 ha.2 13 (by omega); have e2 := u8_eq hb.1 hb.2 10 (by omega); have e3 := u8_eq hc.1 hc.2 13 (by omega); have e4 := u8_eq hd.1 hd.2 10 (by omega)
    simp only [List.map_cons, List.isPrefixOf, Bool.and_true]
    have c13 : (13 : UInt8) = UInt8.ofNat 13 := rfl
    have c10 : (10 : UInt8) = UInt8.ofNat 10 := rfl
    rw [c13, c10, e1, e2, e3, e4]
    rw [Bool.eq_iff_iff]
    simp
/-- the place behind the first empty line, from place i on -/
def fnd4 : Nat → List Int → Int
  | _, [] => -1
  | i, c :: r => if (c :: r).take 4 = [13, 10, 13, 10] then (i : Int) + 4 else fnd4 (i + 1) r
theorem fnd4_short : ∀ (t : List Int) (i : Nat), t.length < 4 → fnd4 i t = -1
  | [], _, _ => rfl
  | c :: r, i, h => by
    rw [fnd4, if_neg, fnd4_short r (i + 1) (by simp at h; omega)]
    intro e
    have := congrArg List.length e
    simp at this h
    omega
theorem fnd4_bound : ∀ (t : List Int) (i : Nat), fnd4 i t ≤ i + t.length ∧ -1 ≤ fnd4 i t
  | [], _ => by simp [fnd4]
  | c :: r, i => by
    rw [fnd4]
    split
    · rename_i e
      have := congrArg List.length e
      simp at this
      simp; omega
    · have := fnd4_bound r (i + 1)
      simp; omega
theorem index_fnd4 : ∀ (t : List Int) (i : Nat), (∀ x ∈ t, 0 ≤ x ∧ x < 256) → (if Lib.index (t.map fun n => UInt8.ofNat n.toNat) [13, 10, 13, 10] < 0 then (-1 : Int) else i + Lib.index (t.map fun n => UInt8.ofNat n.toNat) [13, 10, 13, 10] + 4) = fnd4 i t
  | [], i, _ => rfl
  | c :: r, i, hr => by
    have hp := pre4 (c :: r) hr
    have ih := index_fnd4 r (i + 1) (fun x hx => hr x (by simp [hx]))
    have hg := Lib.index_ge (r.map fun n => UInt8.ofNat n.toNat) [13, 10, 13, 10]
    rw [List.map_cons] at hp ⊢
    rw [Lib.index, hp, fnd4]
    by_cases q : (c :: r).take 4 = [13, 10, 13, 10]
    · rw [if_pos q, decide_eq_true q]; simp
    · rw [if_neg q, decide_eq_false q, ← ih]
      simp only [Bool.false_eq_true, if_false, beq_iff_eq]
      by_cases q1 : Lib.index (r.map fun n => UInt8.ofNat n.toNat) [13, 10, 13, 10] = -1
      · rw [if_pos q1, q1]; rfl
      · rw [if_neg q1, if_neg (by omega), if_neg (by omega)]
        rw [show ((i + 1 : Nat) : Int) = i + 1 from rfl]; omega
def headEnd (l : List Int) : Int := fnd4 0 (l.take 400)
theorem mn_len (l : List Int) : mn (l.length : Int) 400 = ((min l.length 400 : Nat) : Int) := by unfold mn; split <;> omega
theorem take_min (l : List Int) : l.take (min l.length 400) = l.take 400 := by
  rcases Nat.le_total l.length 400 with h | h
  · rw [Nat.min_eq_left h, List.take_of_length_le (Nat.le_refl _), List.take_of_length_le h]
  · rw [Nat.min_eq_right h]
theorem impl_HeadEnd_eq (l : List Int) (hr : ∀ x ∈ l, 0 ≤ x ∧ x < 256) : impl_HeadEnd.f l = some (headEnd l) := by
  unfold impl_HeadEnd.f
  have hm := mn_len l
  rw [hm, if_pos (by omega), if_pos (by omega), Int.toNat_natCast, take_min]
  have hsz : (strOfNums (l.take 400)).size ≤ 400 := by rw [strOfNums_size, List.length_take]; omega
  unfold strings_Index.f
  rw [if_pos (by omega), Option.bind_some, strOfNums_data]
  have h0 := index_fnd4 (l.take 400) 0 (fun x hx => hr x (List.mem_of_mem_take hx))
  have hg := Lib.index_ge ((l.take 400).map fun n => UInt8.ofNat n.toNat) [13, 10, 13, 10]
  have hl := Lib.index_le ((l.take 400).map fun n => UInt8.ofNat n.toNat) [13, 10, 13, 10]
  rw [List.length_map, List.length_take] at hl
  unfold headEnd
  rw [← h0]
  change (if Lib.index ((l.take 400).map fun n => UInt8.ofNat n.toNat) [13, 10, 13, 10] < 0 then some (-1) else some (wrap64 (Lib.index ((l.take 400).map fun n => UInt8.ofNat n.toNat) [13, 10, 13, 10] + 4))) = _
  by_cases q : Lib.index ((l.take 400).map fun n => UInt8.ofNat n.toNat) [13, 10, 13, 10] < 0
  · rw [if_pos q, if_pos q]
  · rw [if_neg q, if_neg q, wrap_id (by omega) (by omega)]; congr 1; simp
theorem spec_HeadEnd_ev (l : List Int) (hl : l.length ≤ 9223372036854775000) (hr : ∀ x ∈ l, 0 ≤ x ∧ x < 256) : Ev (fun k => spec_HeadEnd.f k l) (headEnd l) := by
  have key : ∀ (n i : Nat), i + n = 400 → Ev (fun k => spec_HeadEnd.l0 k l (i : Int)) (fnd4 i ((l.take 400).drop i)) := by
    intro n
    induction n with
    | zero =>
      intro i hi
      have e0 : (l.take 400).drop i = [] := List.drop_eq_nil_of_le (by rw [List.length_take]; omega)
      rw [e0, fnd4]
      apply ev_succ
      simp only [spec_HeadEnd.l0]
      refine ev_ite (fun _ => ?_) (fun _ => ?_)
      · rw [decide_eq_false (by unfold wrap64; omega)]
        apply ev_succ; simp only [spec_HeadEnd.j1, Bool.false_eq_true, if_false]; exact Ev.now _
      · apply ev_succ; simp only [spec_HeadEnd.j1, Bool.false_eq_true, if_false]; exact Ev.now _
    | succ n ih =>
      intro i hi
      rcases Nat.lt_or_ge i 400 with hlt | hge
      · have hw3 : wrap64 ((i : Int) + 3) = ((i + 3 : Nat) : Int) := by rw [wrap_id (by omega) (by omega)]; rfl
        have hw4 : wrap64 ((i : Int) + 4) = ((i + 4 : Nat) : Int) := by rw [wrap_id (by omega) (by omega)]; rfl
        have hw1 : wrap64 ((i : Int) + 1) = ((i + 1 : Nat) : Int) := by rw [wrap_id (by omega) (by omega)]; rfl
        have jf : Ev (fun k => spec_HeadEnd.j1 k l (i : Int) false) (-1) := by
          apply ev_succ; simp only [spec_HeadEnd.j1, Bool.false_eq_true, if_false]; exact Ev.now _
        apply ev_succ
        simp only [spec_HeadEnd.l0, hw3]
        refine ev_ite (fun q => ?_) (fun q => ?_)
        · by_cases q1 : ((i + 3 : Nat) : Int) < 400
          · rw [decide_eq_true q1]
            have hL : i < (l.take 400).length := by rw [List.length_take]; omega
            have ht : ((l.take 400).drop i) = (l.take 400)[i] :: (l.take 400).drop (i + 1) := List.drop_eq_getElem_cons hL
            have h4 : ((l.take 400).drop i).take 4 = (l.take (i + 4)).drop i := by
              rw [List.take_drop, List.take_take, show min (i + 4) 400 = i + 4 by omega]
            apply ev_succ
            simp only [spec_HeadEnd.j1, if_true, hw4, hw1, if_pos (show (0 : Int) ≤ (i : Int) by omega), if_pos (show (i : Int) ≤ ((i + 4 : Nat) : Int) by omega), if_pos (show ((i + 4 : Nat) : Int) ≤ l.length by omega), Int.toNat_natCast]
            have hc : ((strOfNums ((l.take (i + 4)).drop i)).toList = ([13, 10, 13, 10] : List UInt8)) ↔ (l.take (i + 4)).drop i = [13, 10, 13, 10] := by
              rw [Lib.toList_data, strOfNums_data]
              have hb := bytesOf_strOfNums ((l.take (i + 4)).drop i) (fun x hx => hr x (List.mem_of_mem_take (List.mem_of_mem_drop hx)))
              unfold bytesOf at hb
              rw [strOfNums_data] at hb
              constructor
              · intro h; rw [h] at hb; rw [← hb]; rfl
              · intro h; rw [h]; rfl
            rw [ht, fnd4, ← ht, h4]
            refine ev_ite (fun q2 => ?_) (fun q2 => ?_)
            · rw [if_pos (hc.mp q2)]; exact Ev.now _
            · rw [if_neg (fun h => q2 (hc.mpr h))]; exact ih (i + 1) (by omega)
          · rw [decide_eq_false q1, fnd4_short _ _ (by rw [List.length_drop, List.length_take]; omega)]; exact jf
        · rw [fnd4_short _ _ (by rw [List.length_drop, List.length_take]; omega)]; exact jf
      · omega
  exact key 400 0 rfl

/-- the digits of a number, as bytes -/
def numD (u : Nat) : List Int := (Lib.decDigits u).map fun b => (b.toNat : Int)
theorem numD_step (u : Nat) (h : 9 < u) : numD u = numD (u / 10) ++ [48 + ((u % 10 : Nat) : Int)] := by
  unfold numD
  rw [Lib.decDigits, dif_neg (by omega), List.map_append]
  congr 1
  simp only [List.map_cons, List.map_nil, List.cons.injEq, and_true]
  rw [show (UInt8.ofNat (48 + u % 10)).toNat = 48 + u % 10 from by simp; omega]
  omega
theorem numD_low (u : Nat) (h : u ≤ 9) : numD u = [48 + (u : Int)] := by
  unfold numD
  rw [Lib.decDigits, dif_pos (by omega)]
  simp only [List.map_cons, List.map_nil, List.cons.injEq, and_true]
  rw [show (UInt8.ofNat (48 + u)).toNat = 48 + u from by simp; omega]
  omega
theorem numD_range (u : Nat) : ∀ x ∈ numD u, 0 ≤ x ∧ x < 256 := by
  intro x hx
  obtain ⟨b, _, rfl⟩ := List.mem_map.1 hx
  have := b.toNat_lt
  omega
theorem strNum (u : Nat) : (⟨(Lib.decDigits u).toArray⟩ : ByteArray) = strOfNums (numD u) := by
  apply bytesOf_inj
  rw [bytesOf_strOfNums _ (numD_range u), bytesOf_mk]; rfl
theorem numD_len : ∀ (k u : Nat), u < 10 ^ (k + 1) → (numD u).length ≤ k + 1
  | 0, u, h => by rw [numD_low u (by simpa using Nat.le_of_lt_succ h)]; simp
  | k + 1, u, h => by
    rcases Nat.lt_or_ge 9 u with h9 | h9
    · rw [numD_step u h9, List.length_append]
      have := numD_len k (u / 10) (by rw [Nat.pow_succ] at h; omega)
      simp; omega
    · rw [numD_low u h9]; simp
/-- one digit in front -/
theorem digit_byte (u : Nat) (hu : u ≤ 9223372036854775807) : wrap64 (48 + Int.tmod (u : Int) 10) % 256 = 48 + ((u % 10 : Nat) : Int) := by
  have e : Int.tmod (u : Int) 10 = ((u % 10 : Nat) : Int) := by rw [Int.tmod_eq_emod_of_nonneg (by omega)]; omega
  rw [e, wrap_id (by omega) (by omega)]
  omega
theorem tdiv_ten (u : Nat) (hu : u ≤ 9223372036854775807) : wrap64 (Int.tdiv (u : Int) 10) = ((u / 10 : Nat) : Int) := by
  rw [Int.tdiv_eq_ediv_of_nonneg (by omega), wrap_id (by omega) (by omega)]
  omega

/-- digits, read as a number -/
def decL : Int → List Int → Option Int
  | a, [] => some a
  | a, c :: r => if 48 ≤ c ∧ c ≤ 57 then decL (a * 10 + (c - 48)) r else none
theorem decL_from : ∀ (l : List UInt8) (acc : Nat), decL (acc : Int) (l.map fun b => (b.toNat : Int)) = (Lib.decFrom acc l).map fun m => (m : Int)
  | [], _ => rfl
  | c :: r, acc => by
    simp only [List.map_cons, decL, Lib.decFrom, Lib.digitVal]
    by_cases h : 48 ≤ c.toNat ∧ c.toNat ≤ 57
    · rw [if_pos h, if_pos (by omega), ← decL_from r]
      congr 1; omega
    · rw [if_neg h, if_neg (by omega)]; rfl
theorem decL_snoc : ∀ (l : List Int) (a c : Int), decL a (l ++ [c]) = (decL a l).bind fun m => if 48 ≤ c ∧ c ≤ 57 then some (m * 10 + (c - 48)) else none
  | [], a, c => by simp [decL]
  | d :: r, a, c => by
    simp only [List.cons_append, decL]
    split
    · exact decL_snoc r _ c
    · rfl
theorem decL_le : ∀ (l : List Int) (a m : Int), 0 ≤ a → decL a l = some m → 0 ≤ m ∧ m < (a + 1) * 10 ^ l.length
  | [], a, m, ha, h => by simp only [decL, Option.some.injEq] at h; subst h; simp; omega
  | c :: r, a, m, ha, h => by
    simp only [decL] at h
    split at h
    · have := decL_le r _ m (by omega) h
      refine ⟨this.1, Int.lt_of_lt_of_le this.2 ?_⟩
      rw [List.length_cons, Int.pow_succ, Int.mul_comm (10 ^ r.length) 10, ← Int.mul_assoc]
      exact Int.mul_le_mul_of_nonneg_right (by omega) (Int.le_of_lt (Int.pow_pos (by decide)))
    · cases h
theorem numD_ne (u : Nat) : numD u ≠ [] := by
  rcases Nat.lt_or_ge 9 u with h9 | h9
  · rw [numD_step u h9]; simp
  · rw [numD_low u h9]; simp
theorem decL_numD (u : Nat) : decL 0 (numD u) = some (u : Int) := by
  induction u using Nat.strongRecOn with
  | _ u ih =>
    rcases Nat.lt_or_ge 9 u with h9 | h9
    · rw [numD_step u h9, decL_snoc, ih (u / 10) (by omega), Option.bind_some, if_pos (by omega)]
      congr 1; omega
    · rw [numD_low u h9]
      simp only [decL]
      rw [if_pos (by omega)]
      congr 1; omega
theorem numD_48 (u : Nat) : ∀ r, numD u = 48 :: r → u = 0 := by
  induction u using Nat.strongRecOn with
  | _ u ih =>
    intro r h
    rcases Nat.lt_or_ge 9 u with h9 | h9
    · rw [numD_step u h9] at h
      cases hd : numD (u / 10) with
      | nil => have := numD_ne (u / 10); exact absurd hd this
      | cons c t =>
        rw [hd, List.cons_append] at h
        obtain ⟨rfl, _⟩ := List.cons.inj h
        have := ih (u / 10) (by omega) t hd
        omega
    · rw [numD_low u h9] at h
      have := (List.cons.inj h).1
      omega
theorem numD_dig (u : Nat) : ∀ c ∈ numD u, 48 ≤ c ∧ c ≤ 57 := by
  induction u using Nat.strongRecOn with
  | _ u ih =>
    intro c h
    rcases Nat.lt_or_ge 9 u with h9 | h9
    · rw [numD_step u h9, List.mem_append] at h
      rcases h with h | h
      · exact ih (u / 10) (by omega) c h
      · simp at h; omega
    · rw [numD_low u h9] at h
      simp at h; omega
/-- what digits without a 0 ahead spell has these digits -/
theorem numD_dec : ∀ (n : Nat) (l : List Int) (m : Int), l.length = n + 1 → decL 0 l = some m → (n = 0 ∨ ∀ r, l ≠ 48 :: r) → numD m.toNat = l
  | 0, l, m, hl, h, _ => by
    obtain ⟨c, rfl⟩ := List.length_eq_one_iff.1 hl
    simp only [decL] at h
    split at h
    · obtain rfl := Option.some.inj h
      rw [numD_low _ (by omega)]
      congr 1; omega
    · cases h
  | n + 1, l, m, hl, h, h0 => by
    replace h0 : ∀ r, l ≠ 48 :: r := by
      rcases h0 with h0 | h0
      · omega
      · exact h0
    obtain ⟨l', c, rfl⟩ : ∃ l' c, l = l' ++ [c] := ⟨l.dropLast, l.getLast (by intro e; subst e; simp at hl), (List.dropLast_concat_getLast _).symm⟩
    have hl' : l'.length = n + 1 := by simp at hl; omega
    rw [decL_snoc] at h
    obtain ⟨m', hm', h⟩ := Option.bind_eq_some_iff.1 h
    split at h
    · rename_i hc
      obtain rfl := Option.some.inj h
      have hb := decL_le l' 0 m' (by omega) hm'
      have h0' : ∀ r, l' ≠ 48 :: r := fun r e => h0 (r ++ [c]) (by rw [e]; rfl)
      have ih := numD_dec n l' m' hl' hm' (.inr h0')
      have h1 : 0 < m'.toNat := by
        rcases Nat.eq_zero_or_pos m'.toNat with e | e
        · rw [e, numD_low 0 (by omega)] at ih
          exact absurd ih.symm (h0' [])
        · exact e
      rw [numD_step _ (by omega), show (m' * 10 + (c - 48)).toNat / 10 = m'.toNat from by omega, ih]
      congr 2; omega
    · cases h

theorem impl_NumText_eq (n : Int) (hn : n ≤ 9223372036854775807) : impl_NumText.f n = some (strOfNums (numD n.toNat)) := by
  have e : mx n 0 = ((n.toNat : Nat) : Int) := by unfold mx; split <;> omega
  unfold impl_NumText.f
  rw [e]
  unfold strconv_Itoa.f
  rw [if_pos (by omega), Option.bind_some]
  unfold Lib.itoa
  rw [if_neg (by omega), Int.toNat_natCast, strNum]

/-- a number of at most seven digits, no 0 ahead, not above a bound -/
def pnum (s : ByteArray) (most : Int) : Int × Bool :=
  match decL 0 (bytesOf s) with
  | none => (0, false)
  | some n => if 1 ≤ s.size ∧ s.size ≤ 7 ∧ ¬ (1 < s.size ∧ (bytesOf s).head? = some 48) ∧ n ≤ most then (n, true) else (0, false)
theorem pnum_yes (s : ByteArray) (most : Int) (u : Nat) (hu : bytesOf s = numD u) (h7 : s.size ≤ 7) (hm : (u : Int) ≤ most) : pnum s most = ((u : Int), true) := by
  unfold pnum
  rw [hu, decL_numD]
  have hne := numD_ne u
  have hl : s.size = (numD u).length := by rw [← hu, bytesOf_length]
  have h1 : 1 ≤ s.size := by
    rcases Nat.eq_zero_or_pos s.size with e | e
    · rw [e] at hl; exact absurd (List.length_eq_zero_iff.1 hl.symm) hne
    · exact e
  refine if_pos ⟨h1, h7, ?_, hm⟩
  rintro ⟨h2, h3⟩
  cases hd : numD u with
  | nil => exact hne hd
  | cons c r =>
    rw [hd] at h3 hl
    simp only [List.head?_cons, Option.some.injEq] at h3
    subst h3
    have := numD_48 u r hd
    subst this
    rw [numD_low 0 (by omega)] at hd
    obtain ⟨_, rfl⟩ := List.cons.inj hd
    simp at hl; omega
theorem pnum_no (s : ByteArray) (most : Int) (h : ∀ u : Nat, bytesOf s = numD u → s.size ≤ 7 → ¬ (u : Int) ≤ most) : pnum s most = (0, false) := by
  unfold pnum
  cases hd : decL 0 (bytesOf s) with
  | none => rfl
  | some n =>
    refine if_neg ?_
    rintro ⟨h1, h7, h0, hm⟩
    have hb := decL_le _ 0 n (by omega) hd
    have hl := bytesOf_length s
    have := numD_dec (s.size - 1) (bytesOf s) n (by omega) hd (by
      rcases Nat.eq_zero_or_pos (s.size - 1) with e | e
      · exact .inl e
      · refine .inr fun r hr => h0 ⟨by omega, by rw [hr]; rfl⟩)
    exact h n.toNat this.symm h7 (by omega)
theorem impl_ParseNum_eq (s : ByteArray) (most : Int) (hs : s.size ≤ 281474976710656) : impl_ParseNum.f s most = some (pnum s most) := by
  unfold impl_ParseNum.f
  rw [if_pos hs]
  have hbs : bytesOf s = s.data.toList.map fun b => (b.toNat : Int) := rfl
  by_cases hy : ∃ u : Nat, bytesOf s = numD u ∧ s.size ≤ 7 ∧ (u : Int) ≤ most
  · obtain ⟨u, hu, h7, hm⟩ := hy
    rw [pnum_yes s most u hu h7 hm]
    have hlen : s.data.toList.length ≤ 18 := by have := data_length s; omega
    have hdec : Lib.decFrom 0 s.data.toList = some u := by
      have h1 := decL_from s.data.toList 0
      rw [← hbs, hu, show ((0 : Nat) : Int) = 0 from rfl, decL_numD] at h1
      cases hd : Lib.decFrom 0 s.data.toList with
      | none => rw [hd] at h1; cases h1
      | some m => rw [hd] at h1; have h2 : (u : Int) = (m : Int) := Option.some.inj h1; congr 1; omega
    have hat : Lib.atoiAll s.data.toList = .ok (u : Int) := by
      cases hl : s.data.toList with
      | nil => rw [hl] at hbs; rw [hu] at hbs; exact absurd hbs (numD_ne u)
      | cons c r =>
        have hc : 48 ≤ (c.toNat : Int) ∧ (c.toNat : Int) ≤ 57 := numD_dig u _ (by rw [← hu, hbs, hl]; simp)
        rw [Lib.atoiAll_plain c r (by omega) (by omega), ← hl, Lib.signless_short hlen]
        unfold Lib.decNat
        rw [if_neg (by rw [hl]; simp), hdec]
        rfl
    have hn := numD_len 6 u
    have hlt : (u : Int) < 10000000 := by
      have := (decL_le _ 0 _ (by omega) (decL_numD u)).2
      rw [← hu, bytesOf_length] at this
      have h3 : (10 : Int) ^ s.size ≤ 10 ^ 7 := by
        have := Nat.pow_le_pow_right (n := 10) (by decide) h7
        exact_mod_cast this
      have e7 : (10 : Int) ^ 7 = 10000000 := by decide
      omega
    rw [hat]
    (try simp only [])
    rw [if_neg (by omega), if_neg (by omega), if_neg (by omega), impl_NumText_eq _ (by omega), Option.bind_some, Int.toNat_natCast]
    rw [if_pos]
    rw [← hu, strOfNums_bytesOf]
  · rw [pnum_no s most (fun u h1 h2 h3 => hy ⟨u, h1, h2, h3⟩)]
    cases hat : Lib.atoiAll s.data.toList with
    | range => rfl
    | ok v =>
      have hb := Lib.atoiAll_bounds hat
      (try simp only [])
      by_cases h1 : v < 0
      · rw [if_pos h1]
      by_cases h2 : most < v
      · rw [if_neg h1, if_pos h2]
      by_cases h3 : 7 < s.size
      · rw [if_neg h1, if_neg h2, if_pos h3]
      rw [if_neg h1, if_neg h2, if_neg h3, impl_NumText_eq _ hb.2, Option.bind_some]
      rw [if_neg]
      intro e
      refine hy ⟨v.toNat, ?_, by omega, by omega⟩
      have : strOfNums (numD v.toNat) = s := (toList_iff _ _).1 e
      rw [← this, bytesOf_strOfNums _ (numD_range _)]
    | _ => rfl
theorem pnum_bound (s : ByteArray) (most : Int) (h : (pnum s most).2 = true) : 0 ≤ (pnum s most).1 ∧ (pnum s most).1 ≤ most ∧ ∀ c ∈ bytesOf s, 48 ≤ c ∧ c ≤ 57 := by
  unfold pnum at *
  cases hd : decL 0 (bytesOf s) with
  | none => rw [hd] at h; cases h
  | some n =>
    rw [hd] at h
    simp only [] at h ⊢
    split at h
    · rename_i hq
      rw [if_pos hq]
      refine ⟨(decL_le _ 0 n (by omega) hd).1, hq.2.2.2, ?_⟩
      have key : ∀ (l : List Int) (a m : Int), decL a l = some m → ∀ c ∈ l, 48 ≤ c ∧ c ≤ 57 := by
        intro l
        induction l with
        | nil => intro a m _ c hc; cases hc
        | cons d r ih =>
          intro a m hm c hc
          simp only [decL] at hm
          split at hm
          · rename_i hd
            rcases List.mem_cons.1 hc with rfl | hc
            · exact hd
            · exact ih _ m hm c hc
          · cases hm
      exact key _ 0 n hd
    · cases h

theorem mem_linesC : ∀ (l : List Int) (cur : List Int), (∀ x ∈ l, 0 ≤ x ∧ x < 256) → (∀ x ∈ cur, 0 ≤ x ∧ x < 256) → ∀ a ∈ splC cur l, (∀ x ∈ a, 0 ≤ x ∧ x < 256) ∧ a.length ≤ cur.length + l.length
  | [], cur, _, hc, a, ha => by
    rw [splC, List.mem_singleton] at ha
    subst ha; exact ⟨hc, by simp⟩
  | [c], cur, hl, hc, a, ha => by
    rw [splC, List.mem_singleton] at ha
    subst ha
    refine ⟨fun x hx => ?_, by simp⟩
    rcases List.mem_append.1 hx with h | h
    · exact hc x h
    · exact hl x h
  | c :: d :: r, cur, hl, hc, a, ha => by
    rw [splC] at ha
    split at ha
    · rcases List.mem_cons.1 ha with h | h
      · subst h; exact ⟨hc, by omega⟩
      · have := mem_linesC r [] (fun x hx => hl x (by simp [hx])) (by simp) a h
        refine ⟨this.1, ?_⟩
        have h2 := this.2
        simp only [List.length_nil, List.length_cons] at h2 ⊢
        omega
    · have := mem_linesC (d :: r) (cur ++ [c]) (fun x hx => hl x (List.mem_cons_of_mem _ hx)) (fun x hx => by
        rcases List.mem_append.1 hx with h | h
        · exact hc x h
        · rw [List.mem_singleton] at h; subst h; exact hl x (by simp)) a ha
      refine ⟨this.1, ?_⟩
      have h2 := this.2
      simp only [List.length_append, List.length_cons, List.length_nil] at h2 ⊢
      omega
theorem linesC_size {l : List Int} (hl : ∀ x ∈ l, 0 ≤ x ∧ x < 256) : ∀ s ∈ linesC l, s.size ≤ l.length := by
  intro s hs
  obtain ⟨a, ha, rfl⟩ := List.mem_map.1 hs
  have := (mem_linesC l [] hl (by simp) a ha).2
  rw [strOfNums_size]; simpa using this
theorem splC_len : ∀ (l cur : List Int), 1 ≤ (splC cur l).length ∧ (splC cur l).length ≤ l.length + 1
  | [], cur => by simp [splC]
  | [c], cur => by simp [splC]
  | c :: d :: r, cur => by
    rw [splC]
    split
    · have := splC_len r []
      simp only [List.length_cons]; omega
    · have := splC_len (d :: r) (cur ++ [c])
      simp only [List.length_cons] at this ⊢; omega
theorem linesC_len (l : List Int) : 1 ≤ (linesC l).length ∧ (linesC l).length ≤ l.length + 1 := by
  unfold linesC; rw [List.length_map]; exact splC_len l []
theorem fnd4_4 : ∀ (t : List Int) (i : Nat), 0 ≤ fnd4 i t → (i : Int) + 4 ≤ fnd4 i t ∧ fnd4 i t ≤ i + t.length
  | [], i, h => by simp [fnd4] at h
  | c :: r, i, h => by
    rw [fnd4] at h ⊢
    by_cases q : (c :: r).take 4 = [13, 10, 13, 10]
    · rw [if_pos q]
      have := congrArg List.length q
      simp at this
      simp only [List.length_cons]
      omega
    · rw [if_neg q] at h ⊢
      have := fnd4_4 r (i + 1) h
      simp only [List.length_cons]
      omega
theorem split_lines (l : List Int) (hl : l.length ≤ 1048576) (hr : ∀ x ∈ l, 0 ≤ x ∧ x < 256) : strings_Split.f (strOfNums l) (⟨#[13, 10]⟩ : ByteArray) = some (linesC l) := by
  unfold strings_Split.f
  rw [if_pos ⟨by rw [strOfNums_size]; omega, by decide⟩, splitB_linesC _ _ (Nat.le_refl _), bytesOf_strOfNums l hr]
theorem lit_iff (s : ByteArray) (l : List UInt8) : s.toList = l ↔ bytesOf s = l.map fun b => (b.toNat : Int) := by
  rw [Lib.toList_data]
  unfold bytesOf
  constructor
  · intro h; rw [h]
  · intro h; exact List.map_inj_right (fun x y hxy => UInt8.toNat_inj.mp (by omega)) |>.mp h
theorem indexByte_mem : ∀ (l : List UInt8) (c : UInt8), 0 ≤ Lib.indexByte l c ↔ c ∈ l
  | [], c => by simp [Lib.indexByte]
  | b :: l, c => by
    have ih := indexByte_mem l c
    have hg := Lib.indexByte_ge l c
    simp only [Lib.indexByte]
    by_cases h : b = c
    · subst h; simp
    · have h' : (b == c) = false := by simpa using h
      have h2 : ¬ c = b := fun e => h e.symm
      rw [h']
      simp only [Bool.false_eq_true, if_false, List.mem_cons, h2, false_or, ← ih]
      by_cases q : Lib.indexByte l c = -1
      · simp [q]
      · have : (Lib.indexByte l c == -1) = false := by simpa using q
        rw [this]; simp only [Bool.false_eq_true, if_false]; omega
theorem mem_bytes (s : ByteArray) (c : UInt8) : c ∈ s.data.toList ↔ (c.toNat : Int) ∈ bytesOf s := by
  unfold bytesOf
  rw [List.mem_map]
  constructor
  · intro h; exact ⟨c, h, rfl⟩
  · rintro ⟨d, hd, he⟩
    have : d = c := UInt8.toNat_inj.mp (by omega)
    rw [← this]; exact hd

/-- what stands ahead of a byte, and from it on -/
def tkC (c : Int) (r : List Int) : List Int := r.takeWhile fun x => decide (x ≠ c)
def drC (c : Int) (r : List Int) : List Int := r.dropWhile fun x => decide (x ≠ c)
theorem tk_dr (c : Int) (r : List Int) : tkC c r ++ drC c r = r := List.takeWhile_append_dropWhile
theorem drC_len (c : Int) (r : List Int) : (tkC c r).length + (drC c r).length = r.length := by rw [← List.length_append, tk_dr]
theorem index_one (c : UInt8) : ∀ l : List UInt8, Lib.index l [c] = if (l.dropWhile fun x => decide (x ≠ c)) = [] then -1 else ((l.takeWhile fun x => decide (x ≠ c)).length : Int)
  | [] => rfl
  | b :: l => by
    have ih := index_one c l
    rw [Lib.index]
    simp only [List.isPrefixOf, Bool.and_true]
    by_cases q : b = c
    · subst q
      simp
    · have q1 : ¬ c = b := fun e => q e.symm
      have q2 : (c == b) = false := by simpa using q1
      rw [q2, if_neg (by simp), ih, List.dropWhile_cons, List.takeWhile_cons]
      simp only [ne_eq, q, not_false_iff, decide_true, if_true]
      by_cases q3 : (l.dropWhile fun x => decide (¬ x = c)) = []
      · simp only [ne_eq, q3, if_true]; rfl
      · simp only [ne_eq, if_neg q3]
        rw [if_neg (by simp only [beq_iff_eq]; omega)]
        simp
theorem cut_u8 (c : UInt8) (l : List UInt8) : Lib.cut l [c] = (l.takeWhile (fun x => decide (x ≠ c)), (l.dropWhile fun x => decide (x ≠ c)).tail, decide ((l.dropWhile fun x => decide (x ≠ c)) ≠ [])) := by
  have ha := List.takeWhile_append_dropWhile (p := fun x => decide (x ≠ c)) (l := l)
  unfold Lib.cut
  rw [index_one]
  generalize (l.takeWhile fun x => decide (x ≠ c)) = t at ha
  generalize (l.dropWhile fun x => decide (x ≠ c)) = d at ha
  by_cases q : d = []
  · subst q
    rw [List.append_nil] at ha
    rw [if_pos rfl, if_neg (by decide), ha]
    rfl
  · rw [if_neg q, if_pos (by omega)]
    subst ha
    simp only [Int.toNat_natCast, List.length_cons, List.length_nil, List.take_left, Nat.zero_add, decide_eq_true q, ne_eq, not_false_iff]
    cases d with
    | nil => exact absurd rfl q
    | cons x u =>
      refine Prod.ext rfl (Prod.ext ?_ rfl)
      show List.drop (t.length + 1) (t ++ x :: u) = u
      rw [show t ++ x :: u = (t ++ [x]) ++ u by simp]
      exact List.drop_left' (by simp)
theorem map_tk (c : UInt8) (l : List UInt8) : (l.takeWhile fun x => decide (x ≠ c)).map (fun b => (b.toNat : Int)) = tkC (c.toNat : Int) (l.map fun b => (b.toNat : Int)) := by
  unfold tkC
  rw [List.takeWhile_map]
  congr 2
  funext x
  simp only [Function.comp, decide_eq_decide]
  constructor
  · intro h e; exact h (UInt8.toNat_inj.1 (by omega))
  · intro h e; exact h (by rw [e])
theorem map_dr (c : UInt8) (l : List UInt8) : (l.dropWhile fun x => decide (x ≠ c)).map (fun b => (b.toNat : Int)) = drC (c.toNat : Int) (l.map fun b => (b.toNat : Int)) := by
  unfold drC
  rw [List.dropWhile_map]
  congr 2
  funext x
  simp only [Function.comp, decide_eq_decide]
  constructor
  · intro h e; exact h (UInt8.toNat_inj.1 (by omega))
  · intro h e; exact h (by rw [e])
theorem cut_one (s : ByteArray) (c : UInt8) (h : s.size < 4294967281) : ∃ a b, strings_Cut.f s (⟨#[c]⟩ : ByteArray) = some (a, b, decide (drC (c.toNat : Int) (bytesOf s) ≠ [])) ∧ bytesOf a = tkC (c.toNat : Int) (bytesOf s) ∧ bytesOf b = (drC (c.toNat : Int) (bytesOf s)).tail := by
  have hb : bytesOf s = s.data.toList.map fun b => (b.toNat : Int) := rfl
  refine ⟨⟨(Lib.cut s.data.toList [c]).1.toArray⟩, ⟨(Lib.cut s.data.toList [c]).2.1.toArray⟩, ?_, ?_, ?_⟩
  · unfold strings_Cut.f
    rw [if_pos h, show ((⟨#[c]⟩ : ByteArray).data.toList) = [c] from rfl, cut_u8]
    rw [hb, ← map_dr]
    simp only [ne_eq, List.map_eq_nil_iff]
  · rw [bytesOf_mk, cut_u8, map_tk, hb]
  · rw [bytesOf_mk, cut_u8]
    show (List.dropWhile _ _).tail.map _ = _
    rw [List.map_tail, map_dr]
    rfl
/-- a text's parts between signs c; cur: the part that is open -/
def splG (c : Int) : List Int → List Int → List (List Int)
  | cur, [] => [cur]
  | cur, x :: r => if x = c then cur :: splG c [] r else splG c (cur ++ [x]) r
def partsG (c : Int) (l : List Int) : List ByteArray := (splG c [] l).map strOfNums
theorem splG_cut (c : Int) : ∀ (l cur : List Int), splG c cur l = if drC c l = [] then [cur ++ l] else (cur ++ tkC c l) :: splG c [] (drC c l).tail
  | [], cur => by simp [splG, drC]
  | x :: r, cur => by
    by_cases q : x = c
    · rw [splG, if_pos q]
      have e1 : drC c (x :: r) = x :: r := by simp [drC, q]
      have e2 : tkC c (x :: r) = [] := by simp [tkC, q]
      rw [e1, e2, if_neg (by simp)]; simp
    · have e1 : drC c (x :: r) = drC c r := by simp [drC, q]
      have e2 : tkC c (x :: r) = x :: tkC c r := by simp [tkC, q]
      rw [splG, if_neg q, splG_cut c r (cur ++ [x]), e1, e2]
      by_cases q1 : drC c r = []
      · rw [if_pos q1, if_pos q1]; simp
      · rw [if_neg q1, if_neg q1]; simp
theorem indexG (c : UInt8) (s : ByteArray) : Lib.indexB s ⟨#[c]⟩ = if drC (c.toNat : Int) (bytesOf s) = [] then -1 else ((tkC (c.toNat : Int) (bytesOf s)).length : Int) := by
  show Lib.index s.data.toList [c] = _
  rw [index_one]
  have hb : bytesOf s = s.data.toList.map fun b => (b.toNat : Int) := rfl
  rw [hb, ← map_dr, ← map_tk]
  simp only [List.map_eq_nil_iff, List.length_map]
theorem splitB_partsG (c : UInt8) : ∀ (n : Nat) (s : ByteArray), s.size ≤ n → Lib.splitB ⟨#[c]⟩ 0 (Lib.countB s ⟨#[c]⟩) s = partsG (c.toNat : Int) (bytesOf s) := by
  intro n
  induction n with
  | zero =>
    intro s h
    have h0 : bytesOf s = [] := List.eq_nil_of_length_eq_zero (by rw [bytesOf_length]; omega)
    have hi : Lib.indexB s ⟨#[c]⟩ = -1 := by rw [indexG, h0]; rfl
    rw [Lib.splitB_miss _ _ _ _ hi]
    unfold partsG
    rw [h0]
    have : s = strOfNums [] := by rw [← h0, strOfNums_bytesOf]
    rw [this]; rfl
  | succ n ih =>
    intro s h
    have hi := indexG c s
    unfold partsG
    rw [splG_cut]
    by_cases q : drC (c.toNat : Int) (bytesOf s) = []
    · rw [if_pos q] at hi
      rw [Lib.splitB_miss _ _ _ _ hi, if_pos q]
      simp [strOfNums_bytesOf]
    · rw [if_neg q] at hi
      have h1 : 1 ≤ (⟨#[c]⟩ : ByteArray).size := Nat.le_refl 1
      rw [if_neg q, Lib.countB_hit s ⟨#[c]⟩ _ h1 hi, Nat.add_comm, Lib.splitB_hit _ _ _ _ _ hi]
      have hl := drC_len (c.toNat : Int) (bytesOf s)
      rw [bytesOf_length] at hl
      have hd : 0 < (drC (c.toNat : Int) (bytesOf s)).length := List.length_pos_iff.2 q
      have e1 : bytesOf (s.extract ((tkC (c.toNat : Int) (bytesOf s)).length + (⟨#[c]⟩ : ByteArray).size) s.size) = (drC (c.toNat : Int) (bytesOf s)).tail := by
        rw [bytesOf_extract, List.take_of_length_le (by rw [bytesOf_length]; exact Nat.le_refl _)]
        have h2 := @List.drop_left _ (tkC (c.toNat : Int) (bytesOf s)) (drC (c.toNat : Int) (bytesOf s))
        rw [tk_dr] at h2
        show (bytesOf s).drop ((tkC (c.toNat : Int) (bytesOf s)).length + 1) = _
        rw [← List.drop_drop, h2, List.drop_one]
      have e2 : s.extract 0 ((tkC (c.toNat : Int) (bytesOf s)).length + 0) = strOfNums (tkC (c.toNat : Int) (bytesOf s)) := by
        apply bytesOf_inj
        have h2 := @List.take_left _ (tkC (c.toNat : Int) (bytesOf s)) (drC (c.toNat : Int) (bytesOf s))
        rw [tk_dr] at h2
        rw [bytesOf_extract, Nat.add_zero, h2, List.drop_zero, bytesOf_strOfNums]
        intro x hx
        exact bytesOf_range s x (by rw [← tk_dr (c.toNat : Int) (bytesOf s)]; exact List.mem_append_left _ hx)
      have hsz : (s.extract ((tkC (c.toNat : Int) (bytesOf s)).length + (⟨#[c]⟩ : ByteArray).size) s.size).size ≤ n := by
        rw [size_len, e1, List.length_tail]; omega
      rw [ih _ hsz, e1, e2]
      simp [partsG]
theorem isLarge_eq (c : Int) : impl_isLarge.f c = some (largeC c) := by
  unfold impl_isLarge.f largeC; split <;> simp [*] <;> omega

/-- a text in small letters, byte by byte -/
def lowC (c : Int) : Int := if largeC c = true then c + 32 else c
def lowL (l : List Int) : List Int := l.map lowC
theorem lowC_range {c : Int} (h : 0 ≤ c ∧ c < 256) : 0 ≤ lowC c ∧ lowC c < 256 := by
  unfold lowC largeC
  split
  · rename_i q
    simp at q
    omega
  · exact h
theorem lowC_mod {c : Int} (h : 0 ≤ c ∧ c < 256) (q : largeC c = true) : (c + 32) % 256 = lowC c := by
  have := lowC_range h
  unfold lowC at this ⊢
  rw [if_pos q] at this ⊢
  omega
def lower (s : ByteArray) : ByteArray := strOfNums (lowL (bytesOf s))
theorem impl_Lower_l0 (l : List Int) (hl : l.length ≤ 1048576) (hr : ∀ x ∈ l, 0 ≤ x ∧ x < 256) : ∀ n i, l.length - i = n → i ≤ l.length → Ev (fun k => impl_Lower.l0 k ((lowL l).take i ++ l.drop i) (l.length : Int) (i : Int)) (strOfNums (lowL l)) := by
  intro n
  induction n with
  | zero =>
    intro i hn hi
    have h0 : i = l.length := by omega
    subst h0
    apply ev_succ; simp only [impl_Lower.l0, if_neg (show ¬ ((l.length : Nat) : Int) < (l.length : Int) by omega)]
    simpa [lowL, List.take_of_length_le] using Ev.now _
  | succ n ih =>
    intro i hn hi
    have hlt : i < l.length := by omega
    have hll : (lowL l).length = l.length := by simp [lowL]
    have htl : ((lowL l).take i).length = i := by rw [List.length_take]; omega
    have hlen : ((lowL l).take i ++ l.drop i).length = l.length := by rw [List.length_append, htl, List.length_drop]; omega
    have hw1 : wrap64 ((i : Int) + 1) = ((i + 1 : Nat) : Int) := by rw [wrap_id (by omega) (by omega)]; rfl
    have hrd : rd ((lowL l).take i ++ l.drop i) (i : Int) = l[i] := by
      rw [rd, Int.toNat_natCast, List.getD_eq_getElem?_getD, List.getElem?_append_right (by omega), htl, List.getElem?_drop]
      simp [hlt]
    have hc := hr l[i] (List.getElem_mem _)
    have step : (lowL l).take (i + 1) ++ l.drop (i + 1) = (lowL l).take i ++ lowC l[i] :: l.drop (i + 1) := by
      rw [List.take_succ_eq_append_getElem (by omega)]
      simp [lowL]
    have hd : l.drop i = l[i] :: l.drop (i + 1) := List.drop_eq_getElem_cons hlt
    have ih' := ih (i + 1) (by omega) (by omega)
    rw [step] at ih'
    apply ev_succ
    simp only [impl_Lower.l0, if_pos (show (i : Int) < (l.length : Int) by omega), if_pos (show (0 : Int) ≤ i by omega), hlen, hrd, isLarge_eq, Option.bind_some, hw1]
    refine ev_ite (fun q => ?_) (fun q => ?_)
    · rw [Int.toNat_natCast, lowC_mod hc q, List.set_append_right _ _ (by omega), htl, Nat.sub_self, hd, List.set_cons_zero]
      exact ih'
    · rw [show lowC l[i] = l[i] by unfold lowC; rw [if_neg q], ← hd] at ih'
      exact ih'
theorem impl_Lower_ev (s : ByteArray) (hs : s.size ≤ 1048576) : Ev (fun k => impl_Lower.f k s) (lower s) := by
  unfold impl_Lower.f
  simp only [if_pos (show s.size < 140737488355328 by omega), Option.bind_some]
  have := impl_Lower_l0 (bytesOf s) (by rw [bytesOf_length]; exact hs) (bytesOf_range s) _ 0 rfl (Nat.zero_le _)
  simpa [lower] using this

def blankC (c : Int) : Bool := decide (c = 32) || decide (c = 9)
def trimL (l : List Int) : List Int := l.dropWhile blankC
def trimR (l : List Int) : List Int := (l.reverse.dropWhile blankC).reverse
theorem trimR_cons (c : Int) (r : List Int) : trimR (c :: r) = if trimR r = [] then (if blankC c = true then [] else [c]) else c :: trimR r := by
  unfold trimR
  rw [List.reverse_cons, List.dropWhile_append]
  by_cases h : r.reverse.dropWhile blankC = []
  · rw [h]
    by_cases q : blankC c = true
    · simp [q]
    · simp [q]
  · have : (r.reverse.dropWhile blankC).isEmpty = false := by simpa using h
    rw [this]
    simp [h]
theorem trim_comm : ∀ l : List Int, trimL (trimR l) = trimR (trimL l)
  | [] => rfl
  | c :: r => by
    have ih := trim_comm r
    rw [trimR_cons]
    by_cases q : blankC c = true
    · have e : trimL (c :: r) = trimL r := by unfold trimL; rw [List.dropWhile_cons_of_pos q]
      rw [e, ← ih]
      by_cases h : trimR r = []
      · rw [if_pos h, if_pos q, h]
      · rw [if_neg h]
        unfold trimL; rw [List.dropWhile_cons_of_pos q]
    · have e : ∀ x : List Int, trimL (c :: x) = c :: x := fun x => by unfold trimL; rw [List.dropWhile_cons_of_neg q]
      rw [e, trimR_cons]
      by_cases h : trimR r = []
      · rw [if_pos h, if_neg q]; exact e []
      · rw [if_neg h]; exact e _
def trim (s : ByteArray) : ByteArray := strOfNums (trimL (trimR (bytesOf s)))
theorem mem_trim {l : List Int} {x : Int} (h : x ∈ trimL (trimR l)) : x ∈ l := by
  unfold trimL trimR at h
  have h1 := (List.dropWhile_sublist _).subset h
  have h2 := (List.dropWhile_sublist _).subset (List.mem_reverse.1 h1)
  exact List.mem_reverse.1 h2
theorem trim_bytes (s : ByteArray) : bytesOf (trim s) = trimL (trimR (bytesOf s)) := bytesOf_strOfNums _ (fun x hx => bytesOf_range s x (mem_trim hx))
theorem trim_size (s : ByteArray) : (trim s).size ≤ s.size := by
  rw [size_len, trim_bytes, size_len]
  unfold trimL trimR
  have h1 := (List.dropWhile_sublist blankC (l := ((bytesOf s).reverse.dropWhile blankC).reverse)).length_le
  have h2 := (List.dropWhile_sublist blankC (l := (bytesOf s).reverse)).length_le
  simp only [List.length_reverse] at h1 h2
  omega
theorem dropWhile_map_ {α β : Type} (f : α → β) (p : β → Bool) : ∀ l : List α, (l.map f).dropWhile p = (l.dropWhile (fun x => p (f x))).map f
  | [] => rfl
  | x :: r => by
    rw [List.map_cons]
    by_cases q : p (f x) = true
    · rw [List.dropWhile_cons_of_pos q, List.dropWhile_cons_of_pos (by exact q), dropWhile_map_ f p r]
    · rw [List.dropWhile_cons_of_neg q, List.dropWhile_cons_of_neg (by exact q), List.map_cons]
theorem blank_u8 (b : UInt8) : ([32, 9] : List UInt8).contains b = blankC (b.toNat : Int) := by
  have H : ∀ n : Fin 256, ([32, 9] : List UInt8).contains (UInt8.ofNat n.val) = blankC (n.val : Int) := by decide +kernel
  have := H ⟨b.toNat, b.toNat_lt⟩
  simpa using this
theorem impl_Trim_eq (s : ByteArray) (hs : s.size ≤ 140737488351232) : impl_Trim.f s = some (trim s) := by
  unfold impl_Trim.f strings_Trim.f
  rw [if_pos ⟨by omega, by decide, by decide⟩]
  simp only [Option.bind_some]
  congr 1
  apply bytesOf_inj
  rw [trim_bytes, bytesOf_mk]
  unfold Lib.trimS Lib.trimLeftS Lib.trimRightS trimL trimR bytesOf
  have e : (fun x : UInt8 => ([32, 9] : List UInt8).contains x) = fun x => blankC (x.toNat : Int) := funext blank_u8
  show List.map _ (List.dropWhile (fun x => ([32, 9] : List UInt8).contains x) (List.dropWhile (fun x => ([32, 9] : List UInt8).contains x) s.data.toList.reverse).reverse) = _
  rw [e, ← List.map_reverse, dropWhile_map_, ← List.map_reverse, dropWhile_map_]
theorem l1Blank_eq (c : Int) : spec_l1Blank.f c = some (blankC c) := by
  unfold spec_l1Blank.f blankC
  by_cases h : c = 32
  · rw [if_pos h]; simp [h]
  · rw [if_neg h]; simp [h]; rfl
theorem bytesOf_one {x : ByteArray} {c : Int} {r : List Int} (h : bytesOf x = c :: r) : bt x 0 = c ∧ bytesOf (x.extract 1 x.size) = r ∧ x.size = r.length + 1 := by
  have hd : (bytesOf x).drop 0 = c :: r := by simpa using h
  obtain ⟨h1, h2, h3⟩ := bt_drop hd
  refine ⟨by simpa using h1, ?_, by rw [size_len, h]; rfl⟩
  rw [bytesOf_extract, List.take_of_length_le (by rw [← size_len]; exact Nat.le_refl _)]
  exact h3
theorem bytesOf_last {x : ByteArray} {c : Int} {r : List Int} (h : bytesOf x = r ++ [c]) : bt x (r.length : Int) = c ∧ bytesOf (x.extract 0 r.length) = r ∧ x.size = r.length + 1 := by
  have hd : (bytesOf x).drop r.length = [c] := by rw [h]; simp
  obtain ⟨h1, h2, h3⟩ := bt_drop hd
  refine ⟨h1, ?_, by rw [size_len, h]; simp⟩
  rw [bytesOf_extract, h]
  simp
theorem spec_Trim_l1 : ∀ (l : List Int) (x : ByteArray), bytesOf x = l.reverse → x.size ≤ 1048576 → Ev (fun k => spec_Trim.l1 k x) (strOfNums (trimR (bytesOf x)))
  | [], x, h, hs => by
    have h0 : x.size = 0 := by rw [size_len, h]; rfl
    apply ev_succ; simp only [spec_Trim.l1, if_neg (show ¬ (x.size : Int) > 0 by omega)]
    rw [h]
    have : x = strOfNums (trimR ([] : List Int).reverse) := by rw [← strOfNums_bytesOf x, h]; rfl
    rw [← this]; exact Ev.now _
  | c :: r, x, h, hs => by
    rw [List.reverse_cons] at h
    obtain ⟨h1, h2, h3⟩ := bytesOf_last h
    rw [List.length_reverse] at h1 h2 h3
    apply ev_succ
    simp only [spec_Trim.l1, if_pos (show (x.size : Int) > 0 by omega), show wrap64 ((x.size : Int) - 1) = (r.length : Int) from by rw [wrap_id (by omega) (by omega)]; omega, if_pos (show (0 : Int) ≤ (r.length : Int) by omega), if_pos (show (r.length : Int) < (x.size : Int) by omega), if_pos (show (r.length : Int) ≤ (x.size : Int) by omega), h1, l1Blank_eq, Option.bind_some, Int.toNat_natCast]
    refine ev_iteB (fun q => ?_) (fun q => ?_)
    · have ih := spec_Trim_l1 r (x.extract 0 r.length) h2 (by rw [size_len, h2, List.length_reverse]; omega)
      have e : trimR (bytesOf x) = trimR (bytesOf (x.extract 0 r.length)) := by
        rw [h, h2]
        unfold trimR
        rw [List.reverse_append, List.reverse_reverse]
        show (List.dropWhile blankC (c :: r)).reverse = _
        rw [List.dropWhile_cons_of_pos q]
      rw [e]; exact ih
    · have e : trimR (bytesOf x) = bytesOf x := by
        rw [h]
        unfold trimR
        rw [List.reverse_append, List.reverse_reverse]
        show (List.dropWhile blankC (c :: r)).reverse = _
        rw [List.dropWhile_cons_of_neg (by rw [q]; simp), List.reverse_cons]
      rw [e, strOfNums_bytesOf]; exact Ev.now _
theorem spec_Trim_l0 : ∀ (l : List Int) (x : ByteArray), bytesOf x = l → x.size ≤ 1048576 → Ev (fun k => spec_Trim.l0 k x) (strOfNums (trimR (trimL (bytesOf x))))
  | [], x, h, hs => by
    have h0 : x.size = 0 := by rw [size_len, h]; rfl
    apply ev_succ; simp only [spec_Trim.l0, if_neg (show ¬ (x.size : Int) > 0 by omega)]
    apply ev_succ; simp only [spec_Trim.j1]
    have := spec_Trim_l1 [] x h hs
    rwa [show trimL (bytesOf x) = bytesOf x by rw [h]; rfl]
  | c :: r, x, h, hs => by
    obtain ⟨h1, h2, h3⟩ := bytesOf_one h
    apply ev_succ
    simp only [spec_Trim.l0, if_pos (show (x.size : Int) > 0 by omega), if_pos (show (0 : Int) < (x.size : Int) by omega), if_pos (show (1 : Int) ≤ (x.size : Int) by omega), h1, l1Blank_eq, Option.bind_some]
    refine ev_iteB (fun q => ?_) (fun q => ?_)
    · have ih := spec_Trim_l0 r (x.extract 1 x.size) h2 (by rw [size_len, h2]; omega)
      have e : trimL (bytesOf x) = trimL (bytesOf (x.extract 1 x.size)) := by
        rw [h, h2]
        unfold trimL
        rw [List.dropWhile_cons_of_pos q]
      rw [e]; exact ih
    · have e : trimL (bytesOf x) = bytesOf x := by
        rw [h]
        unfold trimL
        rw [List.dropWhile_cons_of_neg (by rw [q]; simp)]
      rw [e]
      apply ev_succ; simp only [spec_Trim.j1]
      exact spec_Trim_l1 (bytesOf x).reverse x (by rw [List.reverse_reverse]) hs
theorem spec_Trim_ev (s : ByteArray) (hs : s.size ≤ 1048576) : Ev (fun k => spec_Trim.f k s) (trim s) := by
  unfold spec_Trim.f trim
  rw [trim_comm]
  exact spec_Trim_l0 _ s rfl hs

def lenB (s : ByteArray) (a b : Int) : Bool := decide (a ≤ (s.size : Int)) && decide ((s.size : Int) ≤ b)

theorem isSmall_eq (c : Int) : impl_isSmall.f c = some (smallC c) := by
  unfold impl_isSmall.f smallC; split <;> simp [*] <;> omega

theorem l1Small_eq (c : Int) (h : wrap64 c = c) : spec_l1Small.f c = some (smallC c) := by
  unfold spec_l1Small.f; rw [h, l1In_eq]; rfl

/-- a small name -/
def snC (first : Bool) (c : Int) : Bool := smallC c || (!first && (digitC c || decide (c = 45)))
def snB : Nat → List Int → Bool
  | _, [] => true
  | i, c :: r => snC (i == 0) c && snB (i + 1) r
def smallName (s : ByteArray) : Bool := snB 0 (bytesOf s) && lenB s 1 20
theorem impl_SmallName_ev (s : ByteArray) (hs : s.size ≤ 140737488351232) : Ev (fun k => impl_SmallName.f k s) (smallName s) := by
  refine str_loop_st s (fun i (_ : Unit) k => impl_SmallName.l0 k s (i : Int)) (fun i _ r => snB i r && lenB s 1 20) (fun _ _ _ => True) ?_ ?_ hs 0 () trivial
  · intro i _ _ hi
    apply ev_succ; simp only [impl_SmallName.l0, if_neg (show ¬ (i : Int) < s.size by omega), in_eq, Option.bind_some]; exact Ev.now _
  · intro i _ c r _ h hb hi hw hw1 ih
    replace ih := ih () trivial
    apply ev_succ
    simp only [impl_SmallName.l0, if_pos (show (i : Int) < s.size by omega), if_pos (show (0 : Int) ≤ i by omega), hb, isSmall_eq, isDigit_eq, Option.bind_some, hw1]
    refine ev_iteB (fun q => ?_) (fun q => ev_ite (fun q0 => ?_) (fun q0 => ?_))
    · simpa [snB, snC, q] using ih
    · have : i = 0 := by omega
      subst this; simpa [snB, snC, q] using Ev.now false
    · have hi0 : (i == 0) = false := by simp; omega
      refine ev_iteB (fun q1 => ?_) (fun q1 => ev_ite (fun q2 => ?_) (fun q2 => ?_))
      · simpa [snB, snC, q, hi0, q1] using ih
      · subst q2; simpa [snB, snC, q, hi0, q1] using ih
      · simpa [snB, snC, q, hi0, q1, q2] using Ev.now false
theorem spec_SmallName_ev (s : ByteArray) (hs : s.size ≤ 140737488351232) : Ev (fun k => spec_SmallName.f k s) (smallName s) := by
  refine str_loop_st s (fun i (_ : Unit) k => spec_SmallName.l0 k s (i : Int)) (fun i _ r => snB i r && lenB s 1 20) (fun _ _ _ => True) ?_ ?_ hs 0 () trivial
  · intro i _ _ hi
    apply ev_succ; simp only [spec_SmallName.l0, if_neg (show ¬ (i : Int) < s.size by omega), l1In_eq, Option.bind_some]; exact Ev.now _
  · intro i _ c r _ h hb hi hw hw1 ih
    replace ih := ih () trivial
    apply ev_succ
    simp only [spec_SmallName.l0, if_pos (show (i : Int) < s.size by omega), if_pos (show (0 : Int) ≤ i by omega), hb, l1Small_eq c hw, l1Digit_eq c hw, Option.bind_some, hw1]
    refine ev_iteB (fun q => ?_) (fun q => ev_ite (fun q0 => ?_) (fun q0 => ?_))
    · simpa [snB, snC, q] using ih
    · have : i = 0 := by omega
      subst this; simpa [snB, snC, q] using Ev.now false
    · have hi0 : (i == 0) = false := by simp; omega
      refine ev_iteB (fun q1 => ?_) (fun q1 => ev_ite (fun q2 => ?_) (fun q2 => ?_))
      · simpa [snB, snC, q, hi0, q1] using ih
      · subst q2; simpa [snB, snC, q, hi0, q1] using ih
      · simpa [snB, snC, q, hi0, q1, q2] using Ev.now false

theorem head_eq (x y : S88) : x = y ↔ x.f0 = y.f0 ∧ x.f1 = y.f1 := by cases x; cases y; simp
theorem isPlain_eq (c : Int) : impl_isPlain.f c = some (plainC c) := by
  unfold impl_isPlain.f plainC; split <;> simp [*] <;> omega
def plainB (l : List Int) : Bool := l.all plainC
theorem impl_Plain_ev (s : ByteArray) (hs : s.size ≤ 140737488351232) : Ev (fun k => impl_Plain.f k s) (plainB (bytesOf s)) := by
  refine str_loop s (fun i k => impl_Plain.l0 k s (i : Int)) plainB ?_ ?_ hs 0
  · intro i hi
    apply ev_succ; simp only [impl_Plain.l0, if_neg (show ¬ (i : Int) < s.size by omega)]; exact Ev.now _
  · intro i c r h hb hi hw hw1 ih
    apply ev_succ
    simp only [impl_Plain.l0, if_pos (show (i : Int) < s.size by omega), if_pos (show (0 : Int) ≤ i by omega), hb, isPlain_eq, Option.bind_some, hw1]
    refine ev_ite (fun h => ?_) (fun h => ?_)
    · simpa [plainB, h] using ih
    · simpa [plainB, h] using Ev.now _
theorem spec_Plain_ev (s : ByteArray) (hs : s.size ≤ 140737488351232) : Ev (fun k => spec_Plain.f k s) (plainB (bytesOf s)) := by
  refine str_loop s (fun i k => spec_Plain.l0 k s (i : Int)) plainB ?_ ?_ hs 0
  · intro i hi
    apply ev_succ; simp only [spec_Plain.l0, if_neg (show ¬ (i : Int) < s.size by omega)]; exact Ev.now _
  · intro i c r h hb hi hw hw1 ih
    apply ev_succ
    simp only [spec_Plain.l0, if_pos (show (i : Int) < s.size by omega), if_pos (show (0 : Int) ≤ i by omega), hb, hw, l1In_eq, Option.bind_some, hw1]
    refine ev_ite (fun h => ?_) (fun h => ?_)
    · have : plainC c = true := h
      simpa [plainB, this] using ih
    · have : plainC c = false := by simpa [plainC] using h
      simpa [plainB, this] using Ev.now _

def valOk (s : ByteArray) : Bool := decide ((s.size : Int) ≤ 60) && (plainB (bytesOf s) && ((trim s).toList == s.toList))
def nameFree (s : ByteArray) : Bool := decide (¬ s.toList = ([99, 111, 110, 116, 101, 110, 116, 45, 108, 101, 110, 103, 116, 104] : List UInt8)) && decide (¬ s.toList = ([116, 114, 97, 110, 115, 102, 101, 114, 45, 101, 110, 99, 111, 100, 105, 110, 103] : List UInt8))
def headOk (h : S88) : Bool := smallName h.f0 && (valOk h.f1 && nameFree h.f0)
def headsOkL (l : List S88) : Bool := l.all headOk
def headsOk (l : List S88) : Bool := headsOkL l && decide ((l.length : Int) ≤ 8)
theorem impl_valOk_ev (s : ByteArray) (hs : s.size ≤ 1048576) : Ev (fun k => impl_valOk.f k s) (valOk s) := by
  unfold impl_valOk.f valOk
  refine ev_ite (fun q => ?_) (fun q => ?_)
  · rw [decide_eq_true q, Bool.true_and]
    refine Ev.bind (impl_Plain_ev s (by omega)) (ev_iteB (fun q1 => ?_) (fun q1 => ?_))
    · rw [q1, Bool.true_and]
      simp only [impl_Trim_eq s (by omega), Option.bind_some]; exact Ev.now _
    · rw [q1, Bool.false_and]; exact Ev.now _
  · rw [decide_eq_false q, Bool.false_and]; exact Ev.now _
theorem spec_l3Val_ev (s : ByteArray) (hs : s.size ≤ 1048576) : Ev (fun k => spec_l3Val.f k s) (valOk s) := by
  unfold spec_l3Val.f valOk
  refine ev_ite (fun q => ?_) (fun q => ?_)
  · rw [decide_eq_true q, Bool.true_and]
    refine Ev.bind (spec_Plain_ev s (by omega)) (ev_iteB (fun q1 => ?_) (fun q1 => ?_))
    · rw [q1, Bool.true_and]
      refine Ev.bind (spec_Trim_ev s hs) ?_
      exact Ev.now _
    · rw [q1, Bool.false_and]; exact Ev.now _
  · rw [decide_eq_false q, Bool.false_and]; exact Ev.now _
theorem spec_l3Heads_ev (l : List S88) (hl : l.length ≤ 9223372036854775806) (hs : ∀ x ∈ l, x.f0.size ≤ 1048576 ∧ x.f1.size ≤ 1048576) : Ev (fun k => spec_l3Heads.f k l) (headsOk l) := by
  refine list_loop_st l hl (fun i (_ : Unit) k => spec_l3Heads.l0 k l (i : Int)) (fun _ _ r => headsOkL r && decide ((l.length : Int) ≤ 8)) (fun _ _ r => ∀ x ∈ r, x.f0.size ≤ 1048576 ∧ x.f1.size ≤ 1048576) ?_ ?_ 0 () hs
  · intro i _ _ hi
    apply ev_succ; simp only [spec_l3Heads.l0, if_neg (show ¬ (i : Int) < l.length by omega)]; exact Ev.now _
  · intro i _ c r hr h hb hi hw1 ih
    have hbb : rd_T88 l (i : Int) = c := hb _
    obtain ⟨hc0, hc1⟩ := hr c (by simp)
    replace ih := ih () (fun x hx => hr x (by simp [hx]))
    apply ev_succ
    simp only [spec_l3Heads.l0, if_pos (show (i : Int) < l.length by omega), if_pos (show (0 : Int) ≤ i by omega), hbb, hw1]
    refine Ev.bind (spec_SmallName_ev c.f0 (by omega)) (ev_iteB (fun q1 => ?_) (fun q1 => ?_))
    · refine Ev.bind (spec_l3Val_ev c.f1 (by omega)) (ev_iteB (fun q2 => ?_) (fun q2 => ?_))
      · refine ev_ite (fun q3 => ?_) (fun q3 => ev_ite (fun q4 => ?_) (fun q4 => ?_))
        · rw [show (headsOkL (c :: r) && decide ((l.length : Int) ≤ 8)) = false by simp [headsOkL, headOk, nameFree, q3]]; exact Ev.now _
        · rw [show (headsOkL (c :: r) && decide ((l.length : Int) ≤ 8)) = false by simp [headsOkL, headOk, nameFree, q4]]; exact Ev.now _
        · rw [show headsOkL (c :: r) = headsOkL r by simp [headsOkL, headOk, nameFree, q1, q2, q3, q4]]; exact ih
      · rw [show (headsOkL (c :: r) && decide ((l.length : Int) ≤ 8)) = false by simp [headsOkL, headOk, q2]]; exact Ev.now _
    · rw [show (headsOkL (c :: r) && decide ((l.length : Int) ≤ 8)) = false by simp [headsOkL, headOk, q1]]; exact Ev.now _

def sameReqV (m p : ByteArray) (l : List S88) (b : ByteArray) (m' p' : ByteArray) (l' : List S88) (b' : ByteArray) : Prop := m = m' ∧ p = p' ∧ l = l' ∧ b = b'
theorem l1Large_eq (c : Int) (h : wrap64 c = c) : spec_l1Large.f c = some (largeC c) := by
  unfold spec_l1Large.f; rw [h, l1In_eq]; rfl

def targetC (c : Int) : Bool := decide (33 ≤ c) && decide (c ≤ 126)
def targetOk (p : ByteArray) : Bool := lenB p 1 80 && (bytesOf p).all targetC
def methodOk (m : ByteArray) : Bool := (bytesOf m).all largeC && lenB m 1 9
def reqOk (m p : ByteArray) (l : List S88) (b : ByteArray) : Bool := methodOk m && (targetOk p && (headsOk l && decide ((b.size : Int) ≤ 200)))
theorem target_plain : ∀ l : List Int, l.all targetC = (plainB l && !decide ((32 : Int) ∈ l))
  | [] => rfl
  | c :: r => by
    have ih := target_plain r
    unfold plainB at ih ⊢
    rw [List.all_cons, List.all_cons, ih]
    have e : decide ((32 : Int) ∈ c :: r) = (decide (c = 32) || decide ((32 : Int) ∈ r)) := by
      rw [Bool.eq_iff_iff, Bool.or_eq_true, decide_eq_true_iff, decide_eq_true_iff, decide_eq_true_iff, List.mem_cons]; exact ⟨fun h => h.elim (fun e => .inl e.symm) .inr, fun h => h.elim (fun e => .inl e.symm) .inr⟩
    rw [e]
    have h1 : targetC c = (plainC c && !decide (c = 32)) := by
      unfold targetC plainC
      rw [Bool.eq_iff_iff]; simp; omega
    rw [h1]
    cases plainC c <;> cases decide (c = 32) <;> cases r.all plainC <;> cases decide ((32 : Int) ∈ r) <;> rfl
theorem impl_lineOk_ev (m p : ByteArray) (hm : m.size ≤ 1048576) (hp : p.size ≤ 1048576) : Ev (fun k => impl_lineOk.f k m p) (methodOk m && targetOk p) := by
  unfold methodOk
  rw [Bool.and_assoc]
  refine str_loop m (fun i k => impl_lineOk.l0 k m p (i : Int)) (fun r => r.all largeC && (lenB m 1 9 && targetOk p)) ?_ ?_ (by omega) 0
  · intro i hi
    apply ev_succ
    simp only [impl_lineOk.l0, if_neg (show ¬ (i : Int) < m.size by omega), in_eq, Option.bind_some]
    rw [List.all_nil, Bool.true_and]
    refine ev_iteB (fun q => ?_) (fun q => ?_)
    · rw [show lenB m 1 9 = true from q, Bool.true_and]
      refine ev_iteB (fun q1 => ?_) (fun q1 => ?_)
      · rw [show targetOk p = (bytesOf p).all targetC by unfold targetOk; rw [show lenB p 1 80 = true from q1, Bool.true_and], target_plain]
        refine Ev.bind (impl_Plain_ev p (by omega)) (ev_iteB (fun q2 => ?_) (fun q2 => ?_))
        · rw [q2, Bool.true_and]
          have e0 : strings_Contains.f p (⟨#[32]⟩ : ByteArray) = some (decide (0 ≤ Lib.indexByte p.data.toList 32)) := rfl
          have e1 : (0 ≤ Lib.indexByte p.data.toList 32) ↔ (32 : Int) ∈ bytesOf p := (indexByte_mem _ _).trans (mem_bytes p 32)
          simp only [e0, Option.bind_some, decide_eq_decide.2 e1]; exact Ev.now _
        · rw [q2, Bool.false_and]; exact Ev.now _
      · rw [show targetOk p = false by unfold targetOk; rw [show lenB p 1 80 = false from q1, Bool.false_and]]; exact Ev.now _
    · rw [show lenB m 1 9 = false from q, Bool.false_and]; exact Ev.now _
  · intro i c r h hb hi hw hw1 ih
    apply ev_succ
    simp only [impl_lineOk.l0, if_pos (show (i : Int) < m.size by omega), if_pos (show (0 : Int) ≤ i by omega), hb, isLarge_eq, Option.bind_some, hw1]
    refine ev_iteB (fun q => ?_) (fun q => ?_)
    · rw [List.all_cons, q, Bool.true_and]; exact ih
    · rw [List.all_cons, q, Bool.false_and, Bool.false_and]; exact Ev.now _
theorem spec_l3Method_ev (m : ByteArray) (hm : m.size ≤ 1048576) : Ev (fun k => spec_l3Method.f k m) (methodOk m) := by
  refine str_loop m (fun i k => spec_l3Method.l0 k m (i : Int)) (fun r => r.all largeC && lenB m 1 9) ?_ ?_ (by omega) 0
  · intro i hi
    apply ev_succ
    simp only [spec_l3Method.l0, if_neg (show ¬ (i : Int) < m.size by omega), l1In_eq, Option.bind_some]
    rw [List.all_nil, Bool.true_and]; exact Ev.now _
  · intro i c r h hb hi hw hw1 ih
    apply ev_succ
    simp only [spec_l3Method.l0, if_pos (show (i : Int) < m.size by omega), if_pos (show (0 : Int) ≤ i by omega), hb, l1Large_eq c hw, Option.bind_some, hw1]
    refine ev_iteB (fun q => ?_) (fun q => ?_)
    · rw [List.all_cons, q, Bool.true_and]; exact ih
    · rw [List.all_cons, q, Bool.false_and, Bool.false_and]; exact Ev.now _
theorem spec_l3Target_ev (p : ByteArray) (hp : p.size ≤ 1048576) : Ev (fun k => spec_l3Target.f k p) (targetOk p) := by
  unfold targetOk
  rw [Bool.and_comm]
  refine str_loop p (fun i k => spec_l3Target.l0 k p (i : Int)) (fun r => r.all targetC && lenB p 1 80) ?_ ?_ (by omega) 0
  · intro i hi
    apply ev_succ
    simp only [spec_l3Target.l0, if_neg (show ¬ (i : Int) < p.size by omega), l1In_eq, Option.bind_some]
    rw [List.all_nil, Bool.true_and]; exact Ev.now _
  · intro i c r h hb hi hw hw1 ih
    apply ev_succ
    simp only [spec_l3Target.l0, if_pos (show (i : Int) < p.size by omega), if_pos (show (0 : Int) ≤ i by omega), hb, hw, l1In_eq, Option.bind_some, hw1]
    refine ev_iteB (fun q => ?_) (fun q => ?_)
    · rw [List.all_cons, show targetC c = true from q, Bool.true_and]; exact ih
    · rw [List.all_cons, show targetC c = false from q, Bool.false_and, Bool.false_and]; exact Ev.now _
theorem spec_ReqOk_ev (m p : ByteArray) (l : List S88) (b : ByteArray) (hm : m.size ≤ 1048576) (hp : p.size ≤ 1048576) (hl : l.length ≤ 9223372036854775806) (hs : ∀ x ∈ l, x.f0.size ≤ 1048576 ∧ x.f1.size ≤ 1048576) : Ev (fun k => spec_ReqOk.f k m p l b) (reqOk m p l b) := by
  unfold spec_ReqOk.f reqOk
  refine Ev.bind (spec_l3Method_ev m hm) (ev_iteB (fun q => ?_) (fun q => ?_))
  · rw [q, Bool.true_and]
    refine Ev.bind (spec_l3Target_ev p hp) (ev_iteB (fun q0 => ?_) (fun q0 => ?_))
    · rw [q0, Bool.true_and]
      refine Ev.bind (spec_l3Heads_ev l hl hs) (ev_iteB (fun q1 => ?_) (fun q1 => ?_))
      · rw [q1, Bool.true_and]; exact Ev.now _
      · rw [q1, Bool.false_and]; exact Ev.now _
    · rw [q0, Bool.false_and]; exact Ev.now _
  · rw [q, Bool.false_and]; exact Ev.now _

abbrev ReqSt := ByteArray × ByteArray × List S88 × ByteArray × ByteArray × Bool × Int × Bool × Bool
def TEb : List Int := [116, 114, 97, 110, 115, 102, 101, 114, 45, 101, 110, 99, 111, 100, 105, 110, 103]
def CLb : List Int := [99, 111, 110, 116, 101, 110, 116, 45, 108, 101, 110, 103, 116, 104]
def spclS (n v : ByteArray) : ReqSt → ReqSt := fun (m, p, hs, b, co, ch, sz, td, bad) =>
  if (ch || td) = true then (m, p, hs, b, co, ch, sz, td, true)
  else if bytesOf n = TEb then (m, p, hs, b, v, true, sz, td, bad)
  else (m, p, hs, b, co, ch, (pnum v 9999999).1, true, bad || !(pnum v 9999999).2)
def nameS (s : ByteArray) : ByteArray := lower (strOfNums (tkC 58 (bytesOf s)))
def valS (s : ByteArray) : ByteArray := trim (strOfNums (drC 58 (bytesOf s)).tail)
def lineS (s : ByteArray) : ReqSt → ReqSt := fun (m, p, hs, b, co, ch, sz, td, bad) =>
  if drC 58 (bytesOf s) ≠ [] ∧ smallName (nameS s) = true ∧ valOk (valS s) = true then
    if bytesOf (nameS s) = CLb ∨ bytesOf (nameS s) = TEb then spclS (nameS s) (valS s) (m, p, hs, b, co, ch, sz, td, bad)
    else (m, p, hs ++ [⟨nameS s, valS s⟩], b, co, ch, sz, td, bad)
  else (m, p, hs, b, co, ch, sz, td, true)
theorem special_ev (n v m p : ByteArray) (hs : List S88) (b co : ByteArray) (ch : Bool) (sz : Int) (td bad : Bool) (hv : v.size ≤ 1048576) :
    Ev (fun k => impl_reqHead_special.f k m p hs b co ch sz td bad n v) (spclS n v (m, p, hs, b, co, ch, sz, td, bad)) := by
  have hlit : (n.toList = ([116, 114, 97, 110, 115, 102, 101, 114, 45, 101, 110, 99, 111, 100, 105, 110, 103] : List UInt8)) ↔ bytesOf n = TEb := lit_iff n _
  have hp := impl_ParseNum_eq v 9999999 (by omega)
  have j : ∀ x : Bool, x = (ch || td) → Ev (fun k => impl_reqHead_special.j0 k n v x m p hs b co ch sz td bad) (spclS n v (m, p, hs, b, co, ch, sz, td, bad)) := by
    intro x hx
    apply ev_succ
    simp only [impl_reqHead_special.j0]
    unfold spclS
    simp only []
    rw [← hx]
    cases x with
    | true => simp only [if_true]; exact Ev.now _
    | false =>
      simp only [Bool.false_eq_true, if_false]
      by_cases q : bytesOf n = TEb
      · simp only [if_pos q, if_pos (hlit.2 q)]; exact Ev.now _
      · simp only [if_neg q, if_neg (fun h => q (hlit.1 h)), hp, Option.bind_some]
        cases bad <;> simp <;> exact Ev.now _
  unfold impl_reqHead_special.f
  cases ch with
  | true => simp only [if_true]; exact j true rfl
  | false => simp only [Bool.false_eq_true, if_false]; exact j td rfl
theorem line_ev (s m p : ByteArray) (hs : List S88) (b co : ByteArray) (ch : Bool) (sz : Int) (td bad : Bool) (hz : s.size ≤ 1048576) (hl : hs.length ≤ 1048577) :
    Ev (fun k => impl_reqHead_line.f k m p hs b co ch sz td bad s) (lineS s (m, p, hs, b, co, ch, sz, td, bad)) := by
  obtain ⟨a, v, e, ha, hv⟩ := cut_one s 58 (by omega)
  have ea : a = strOfNums (tkC 58 (bytesOf s)) := by rw [← strOfNums_bytesOf a, ha]; rfl
  have ev : v = strOfNums (drC 58 (bytesOf s)).tail := by rw [← strOfNums_bytesOf v, hv]; rfl
  have hlen := drC_len 58 (bytesOf s)
  rw [bytesOf_length] at hlen
  have sa : a.size ≤ 1048576 := by rw [ea, strOfNums_size]; omega
  have sv : v.size ≤ 1048576 := by rw [ev, strOfNums_size, List.length_tail]; omega
  have el : lower a = nameS s := by unfold nameS; rw [ea]
  have et : trim v = valS s := by unfold valS; rw [ev]
  have sl : (nameS s).size ≤ 1048576 := by rw [← el]; unfold lower lowL; rw [strOfNums_size, List.length_map, bytesOf_length]; omega
  have st : (valS s).size ≤ 1048576 := by rw [← et]; have := trim_size v; omega
  have h1 := impl_Lower_ev a sa
  have h2 := impl_Trim_eq v (by omega)
  rw [el] at h1
  rw [et] at h2
  have h3 := impl_SmallName_ev (nameS s) (by omega)
  have h4 := impl_valOk_ev (valS s) st
  have jbad : Ev (fun k => impl_reqHead_line.j0 k (nameS s) (valS s) true m p hs b co ch sz td bad) (m, p, hs, b, co, ch, sz, td, true) := by
    apply ev_succ; simp only [impl_reqHead_line.j0, if_true]; exact Ev.now _
  have hCL : ((nameS s).toList = ([99, 111, 110, 116, 101, 110, 116, 45, 108, 101, 110, 103, 116, 104] : List UInt8)) ↔ bytesOf (nameS s) = CLb := lit_iff _ _
  have hTE : ((nameS s).toList = ([116, 114, 97, 110, 115, 102, 101, 114, 45, 101, 110, 99, 111, 100, 105, 110, 103] : List UInt8)) ↔ bytesOf (nameS s) = TEb := lit_iff _ _
  have hsp := special_ev (nameS s) (valS s) m p hs b co ch sz td bad st
  have jok : Ev (fun k => impl_reqHead_line.j0 k (nameS s) (valS s) false m p hs b co ch sz td bad) (if bytesOf (nameS s) = CLb ∨ bytesOf (nameS s) = TEb then spclS (nameS s) (valS s) (m, p, hs, b, co, ch, sz, td, bad) else (m, p, hs ++ [⟨nameS s, valS s⟩], b, co, ch, sz, td, bad)) := by
    apply ev_succ
    simp only [impl_reqHead_line.j0, Bool.false_eq_true, if_false]
    by_cases q1 : bytesOf (nameS s) = CLb
    · rw [if_pos (show bytesOf (nameS s) = CLb ∨ bytesOf (nameS s) = TEb from .inl q1)]
      simp only [if_pos (hCL.2 q1)]
      exact Ev.bind hsp (Ev.now _)
    · simp only [if_neg (fun h => q1 (hCL.1 h))]
      by_cases q2 : bytesOf (nameS s) = TEb
      · rw [if_pos (show bytesOf (nameS s) = CLb ∨ bytesOf (nameS s) = TEb from .inr q2)]
        simp only [if_pos (hTE.2 q2)]
        exact Ev.bind hsp (Ev.now _)
      · rw [if_neg (show ¬ (bytesOf (nameS s) = CLb ∨ bytesOf (nameS s) = TEb) from fun h => h.elim q1 q2)]
        simp only [if_neg (fun h => q2 (hTE.1 h)), if_pos (show hs.length < 4398046511104 by omega)]
        exact Ev.now _
  unfold impl_reqHead_line.f lineS
  simp only [e, Option.bind_some, decide_eq_true_iff]
  refine Ev.bind h1 ?_
  simp only [h2, Option.bind_some]
  have e58 : ((58 : UInt8).toNat : Int) = 58 := rfl
  simp only [e58]
  by_cases q0 : drC 58 (bytesOf s) ≠ []
  · simp only [if_pos q0]
    refine Ev.bind h3 ?_
    by_cases q1 : smallName (nameS s) = true
    · simp only [if_pos q1]
      refine Ev.bind h4 ?_
      by_cases q2 : valOk (valS s) = true
      · rw [if_pos ⟨q0, q1, q2⟩, q2]; exact jok
      · rw [if_neg (fun h => q2 h.2.2), Bool.not_eq_true _ |>.mp q2]; exact jbad
    · simp only [if_neg q1]
      rw [if_neg (fun h => q1 h.2.1)]; exact jbad
  · simp only [if_neg q0]
    rw [if_neg (fun h => q0 h.1)]; exact jbad

def htCat (x : ByteArray) (h : S88) : ByteArray := x ++ ((((h.f0) ++ (⟨#[58, 32]⟩ : ByteArray)) ++ h.f1) ++ (⟨#[13, 10]⟩ : ByteArray))
def htL : ByteArray → List S88 → ByteArray
  | x, [] => x
  | x, c :: r => htL (htCat x c) r
def headText (l : List S88) : ByteArray := htL (⟨#[]⟩ : ByteArray) l
theorem sz2a : (⟨#[58, 32]⟩ : ByteArray).size = 2 := rfl
theorem sz2b : (⟨#[13, 10]⟩ : ByteArray).size = 2 := rfl
theorem htCat_size (x : ByteArray) (h : S88) : (htCat x h).size = x.size + (h.f0.size + 2 + h.f1.size + 2) := by
  unfold htCat; simp only [ByteArray.size_append, sz2a, sz2b]
theorem htL_size : ∀ (l : List S88) (x : ByteArray), (∀ y ∈ l, y.f0.size ≤ 1048576 ∧ y.f1.size ≤ 1048576) → (htL x l).size ≤ x.size + l.length * 2097156
  | [], x, _ => by simp [htL]
  | c :: r, x, h => by
    have h1 := htL_size r (htCat x c) (fun y hy => h y (by simp [hy]))
    have h2 := h c (by simp)
    rw [htCat_size] at h1
    simp only [htL, List.length_cons]
    omega
theorem headText_size (l : List S88) (hl : l.length ≤ 1048576) (h : ∀ y ∈ l, y.f0.size ≤ 1048576 ∧ y.f1.size ≤ 1048576) : (headText l).size ≤ 2199027449856 := by
  have := htL_size l (⟨#[]⟩ : ByteArray) h
  rw [show (⟨#[]⟩ : ByteArray).size = 0 from rfl] at this
  unfold headText
  omega
theorem htCat_assoc (x : ByteArray) (h : S88) : (((x ++ h.f0) ++ (⟨#[58, 32]⟩ : ByteArray)) ++ h.f1) ++ (⟨#[13, 10]⟩ : ByteArray) = htCat x h := by
  unfold htCat; simp only [ByteArray.append_assoc]
theorem spec_l3HeadsText_ev (l : List S88) (hl : l.length ≤ 1048576) (hs : ∀ x ∈ l, x.f0.size ≤ 1048576 ∧ x.f1.size ≤ 1048576) : Ev (fun k => spec_l3HeadsText.f k l) (headText l) := by
  refine list_loop_st l (by omega) (fun i x k => spec_l3HeadsText.l0 k l x (i : Int)) (fun _ x r => htL x r) (fun i x r => x.size ≤ i * 2097156 ∧ ∀ y ∈ r, y.f0.size ≤ 1048576 ∧ y.f1.size ≤ 1048576) ?_ ?_ 0 _ ⟨by rw [show (⟨#[]⟩ : ByteArray).size = 0 from rfl]; omega, hs⟩
  · intro i x _ hi
    apply ev_succ; simp only [spec_l3HeadsText.l0, if_neg (show ¬ (i : Int) < l.length by omega)]; exact Ev.now _
  · intro i x c r ⟨hx, hr⟩ h hb hi hw1 ih
    have hbb : rd_T88 l (i : Int) = c := hb _
    obtain ⟨hc0, hc1⟩ := hr c (by simp)
    replace ih := ih (htCat x c) ⟨by rw [htCat_size]; omega, fun y hy => hr y (by simp [hy])⟩
    apply ev_succ
    simp only [spec_l3HeadsText.l0, if_pos (show (i : Int) < l.length by omega), if_pos (show (0 : Int) ≤ i by omega), hbb, hw1, htCat_assoc, ByteArray.size_append, sz2a, sz2b, if_pos (show x.size + c.f0.size ≤ 9223372036854775807 by omega), if_pos (show x.size + c.f0.size + 2 ≤ 9223372036854775807 by omega), if_pos (show x.size + c.f0.size + 2 + c.f1.size ≤ 9223372036854775807 by omega), if_pos (show x.size + c.f0.size + 2 + c.f1.size + 2 ≤ 9223372036854775807 by omega)]
    exact ih

theorem spec_NumText_l0 : ∀ (n u : Nat) (x : ByteArray), u < 10 ^ (n + 1) → u ≤ 9223372036854775807 → x.size ≤ 1000 - n → n ≤ 20 → bytesOf x = (numD u).drop ((numD u).length - 1) ++ (bytesOf x).drop 1 → Ev (fun k => spec_NumText.l0 k (u : Int) x) (strOfNums (numD u ++ (bytesOf x).drop 1))
  | 0, u, x, h, hu, hx, hn, hb => by
    have h9 : u ≤ 9 := by omega
    apply ev_succ
    simp only [spec_NumText.l0, if_neg (show ¬ (u : Int) > 9 by omega)]
    rw [numD_low u h9] at hb ⊢
    simp only [List.length_cons, List.length_nil, List.drop_zero, Nat.zero_add, Nat.sub_self] at hb
    rw [← hb, strOfNums_bytesOf]
    exact Ev.now _
  | n + 1, u, x, h, hu, hx, hn, hb => by
    apply ev_succ
    rcases Nat.lt_or_ge 9 u with h9 | h9
    · have hy : bytesOf (strOfNums [48 + ((u / 10 % 10 : Nat) : Int)]) = [48 + ((u / 10 % 10 : Nat) : Int)] := bytesOf_strOfNums _ (by intro z hz; simp at hz; omega)
      have hs1 : (strOfNums [48 + ((u / 10 % 10 : Nat) : Int)]).size = 1 := by rw [size_len, hy]; rfl
      simp only [spec_NumText.l0, if_pos (show (u : Int) > 9 by omega), tdiv_ten u hu, digit_byte (u / 10) (by omega), Option.bind_some, hs1, if_pos (show 1 + x.size ≤ 9223372036854775807 by omega)]
      have e : bytesOf (strOfNums [48 + ((u / 10 % 10 : Nat) : Int)] ++ x) = (48 + ((u / 10 % 10 : Nat) : Int)) :: bytesOf x := by rw [bytesOf_append, hy]; rfl
      have ih := spec_NumText_l0 n (u / 10) (strOfNums [48 + ((u / 10 % 10 : Nat) : Int)] ++ x) (by rw [Nat.pow_succ] at h; omega) (by omega) (by rw [ByteArray.size_append, hs1]; omega) (by omega) (by
        rw [e]
        simp only [List.drop_succ_cons, List.drop_zero]
        rcases Nat.lt_or_ge 9 (u / 10) with h10 | h10
        · rw [numD_step (u / 10) h10]
          simp
        · rw [numD_low (u / 10) h10, Nat.mod_eq_of_lt (by omega)]
          simp)
      rw [e] at ih
      simp only [List.drop_succ_cons, List.drop_zero] at ih
      rw [numD_step u h9] at hb ⊢
      simp only [List.length_append, List.length_cons, List.length_nil, Nat.zero_add, Nat.add_sub_cancel, List.drop_left] at hb
      rw [List.append_assoc, ← hb]
      exact ih
    · simp only [spec_NumText.l0, if_neg (show ¬ (u : Int) > 9 by omega)]
      rw [numD_low u h9] at hb ⊢
      simp only [List.length_cons, List.length_nil, List.drop_zero, Nat.zero_add, Nat.sub_self] at hb
      rw [← hb, strOfNums_bytesOf]
      exact Ev.now _
theorem spec_NumText_j0 (u : Nat) (hu : u ≤ 9223372036854775807) : Ev (fun k => spec_NumText.j0 k (u : Int)) (strOfNums (numD u)) := by
  apply ev_succ
  simp only [spec_NumText.j0, digit_byte u hu]
  have hy : bytesOf (strOfNums [48 + ((u % 10 : Nat) : Int)]) = [48 + ((u % 10 : Nat) : Int)] := bytesOf_strOfNums _ (by intro z hz; simp at hz; omega)
  have hs1 : (strOfNums [48 + ((u % 10 : Nat) : Int)]).size = 1 := by rw [size_len, hy]; rfl
  have := spec_NumText_l0 18 u (strOfNums [48 + ((u % 10 : Nat) : Int)]) (by omega) hu (by omega) (by omega) (by
    rw [hy]
    rcases Nat.lt_or_ge 9 u with h9 | h9
    · rw [numD_step u h9]; simp
    · rw [numD_low u h9, Nat.mod_eq_of_lt (by omega)]; simp)
  rw [hy] at this
  simpa using this
theorem spec_NumText_ev (n : Int) (hn : n ≤ 9223372036854775807) : Ev (fun k => spec_NumText.f k n) (strOfNums (numD n.toNat)) := by
  unfold spec_NumText.f
  refine ev_ite (fun h => ?_) (fun h => ?_)
  · rw [show n.toNat = 0 from by omega]
    exact spec_NumText_j0 0 (by omega)
  · have := spec_NumText_j0 n.toNat (by omega)
    rwa [Int.toNat_of_nonneg (by omega)] at this

theorem sz2c : (⟨#[13, 10]⟩ : ByteArray).size = 2 := rfl

def lenText (b : ByteArray) : ByteArray := ((⟨#[99, 111, 110, 116, 101, 110, 116, 45, 108, 101, 110, 103, 116, 104, 58, 32]⟩ : ByteArray) ++ strOfNums (numD b.size)) ++ (⟨#[13, 10]⟩ : ByteArray)
theorem sz16 : (⟨#[99, 111, 110, 116, 101, 110, 116, 45, 108, 101, 110, 103, 116, 104, 58, 32]⟩ : ByteArray).size = 16 := rfl
theorem num_size (u : Nat) (h : u ≤ 1048576) : (strOfNums (numD u)).size ≤ 7 := by
  rw [size_len, bytesOf_strOfNums _ (numD_range u)]
  exact numD_len 6 u (by omega)
theorem rdOf_at (l : List ByteArray) (i : Nat) : rdOf ByteArray.empty l (i : Int) = l.getD i ByteArray.empty := by
  unfold rdOf; rw [Int.toNat_natCast]
def CHb : List Int := [99, 104, 117, 110, 107, 101, 100]
def H11b : List Int := [72, 84, 84, 80, 47, 49, 46, 49]
def stHs (st : ReqSt) : List S88 := st.2.2.1
def stCo (st : ReqSt) : ByteArray := st.2.2.2.2.1
def stCh (st : ReqSt) : Bool := st.2.2.2.2.2.1
def stSz (st : ReqSt) : Int := st.2.2.2.2.2.2.1
def stBad (st : ReqSt) : Bool := st.2.2.2.2.2.2.2.2
def stZ : ReqSt := (⟨#[]⟩, ⟨#[]⟩, [], ⟨#[]⟩, ⟨#[]⟩, false, 0, false, false)
def rhCode (st : ReqSt) : Int := if stBad st = true then 400 else if 8 < (stHs st).length then 431 else if stCh st = true ∧ bytesOf (lower (stCo st)) ≠ CHb then 501 else if 200 < stSz st then 413 else 0
theorem rhCode_eq (m p : ByteArray) (hs : List S88) (b co : ByteArray) (ch : Bool) (sz : Int) (td bad : Bool) : rhCode (m, p, hs, b, co, ch, sz, td, bad) = if bad = true then 400 else if 8 < hs.length then 431 else if ch = true ∧ bytesOf (lower co) ≠ CHb then 501 else if 200 < sz then 413 else 0 := rfl
def rhLs (ls : List ByteArray) (st : ReqSt) : ReqSt := ls.foldl (fun st s => lineS s st) st
def rhS (l : List Int) : ReqSt × Int :=
  if (partsG 32 (bytesOf ((linesC l).getD 0 ByteArray.empty))).length = 3 ∧ bytesOf ((partsG 32 (bytesOf ((linesC l).getD 0 ByteArray.empty))).getD 2 ByteArray.empty) = H11b ∧ (methodOk ((partsG 32 (bytesOf ((linesC l).getD 0 ByteArray.empty))).getD 0 ByteArray.empty) && targetOk ((partsG 32 (bytesOf ((linesC l).getD 0 ByteArray.empty))).getD 1 ByteArray.empty)) = true then
    (rhLs ((linesC l).drop 1) ((partsG 32 (bytesOf ((linesC l).getD 0 ByteArray.empty))).getD 0 ByteArray.empty, (partsG 32 (bytesOf ((linesC l).getD 0 ByteArray.empty))).getD 1 ByteArray.empty, [], ⟨#[]⟩, ⟨#[]⟩, false, 0, false, false),
     rhCode (rhLs ((linesC l).drop 1) ((partsG 32 (bytesOf ((linesC l).getD 0 ByteArray.empty))).getD 0 ByteArray.empty, (partsG 32 (bytesOf ((linesC l).getD 0 ByteArray.empty))).getD 1 ByteArray.empty, [], ⟨#[]⟩, ⟨#[]⟩, false, 0, false, false)))
  else (stZ, 400)
def flatR (r : ReqSt × Int) : ByteArray × ByteArray × List S88 × ByteArray × ByteArray × Bool × Int × Bool × Bool × Int :=
  (r.1.1, r.1.2.1, r.1.2.2.1, r.1.2.2.2.1, r.1.2.2.2.2.1, r.1.2.2.2.2.2.1, r.1.2.2.2.2.2.2.1, r.1.2.2.2.2.2.2.2.1, r.1.2.2.2.2.2.2.2.2, r.2)
def StP (n : Nat) (st : ReqSt) : Prop := (stHs st).length ≤ n ∧ (∀ x ∈ stHs st, x.f0.size ≤ 1048576 ∧ x.f1.size ≤ 1048576) ∧ (stCo st).size ≤ 1048576 ∧ 0 ≤ stSz st
theorem pnum_ge (s : ByteArray) (m : Int) : 0 ≤ (pnum s m).1 := by
  by_cases h : (pnum s m).2 = true
  · exact (pnum_bound s m h).1
  · have e : pnum s m = (0, false) ∨ (pnum s m).2 = true := by
      by_cases q : ∃ u : Nat, bytesOf s = numD u ∧ s.size ≤ 7 ∧ (u : Int) ≤ m
      · obtain ⟨u, h1, h2, h3⟩ := q
        right; rw [pnum_yes s m u h1 h2 h3]
      · left; exact pnum_no s m (fun u h1 h2 h3 => q ⟨u, h1, h2, h3⟩)
    rcases e with e | e
    · rw [e]; exact Int.le_refl 0
    · exact absurd e h
theorem nameS_size (s : ByteArray) (n : Nat) (h : s.size ≤ n) : (nameS s).size ≤ n := by
  have hlen := drC_len 58 (bytesOf s)
  rw [bytesOf_length] at hlen
  have := bytesOf_length (strOfNums (tkC 58 (bytesOf s)))
  unfold nameS lower lowL; rw [strOfNums_size, List.length_map, bytesOf_length, strOfNums_size]; omega
theorem valS_size (s : ByteArray) (n : Nat) (h : s.size ≤ n) : (valS s).size ≤ n := by
  have hlen := drC_len 58 (bytesOf s)
  rw [bytesOf_length] at hlen
  have := trim_size (strOfNums (drC 58 (bytesOf s)).tail)
  rw [strOfNums_size, List.length_tail] at this
  unfold valS; omega
theorem lineS_P {n : Nat} {st : ReqSt} {s : ByteArray} (h : StP n st) (hs : s.size ≤ 1048576) : StP (n + 1) (lineS s st) := by
  obtain ⟨m, p, hs', b, co, ch, sz, td, bad⟩ := st
  obtain ⟨h1, h2, h3, h4⟩ := h
  have hv := valS_size s 1048576 hs
  have hn := nameS_size s 1048576 hs
  simp only [stHs, stCo, stSz] at h1 h2 h3 h4
  unfold lineS
  simp only []
  split
  · split
    · unfold spclS
      simp only []
      split
      · exact ⟨by simp only [stHs]; omega, h2, h3, h4⟩
      · split
        · exact ⟨by simp only [stHs]; omega, h2, hv, h4⟩
        · exact ⟨by simp only [stHs]; omega, h2, h3, pnum_ge _ _⟩
    · refine ⟨by simp only [stHs, List.length_append, List.length_cons, List.length_nil]; omega, fun x hx => ?_, h3, h4⟩
      rcases List.mem_append.1 hx with hx | hx
      · exact h2 x hx
      · simp only [List.mem_cons, List.not_mem_nil, or_false] at hx
        subst hx; exact ⟨hn, hv⟩
  · exact ⟨by simp only [stHs]; omega, h2, h3, h4⟩
theorem rhLs_P : ∀ (ls : List ByteArray) (n : Nat) (st : ReqSt), StP n st → (∀ x ∈ ls, x.size ≤ 1048576) → StP (n + ls.length) (rhLs ls st)
  | [], n, st, h, _ => h
  | s :: ls, n, st, h, hx => by
    have := rhLs_P ls (n + 1) (lineS s st) (lineS_P h (hx s (by simp))) (fun x h => hx x (by simp [h]))
    rw [List.length_cons, show n + (ls.length + 1) = n + 1 + ls.length by omega]
    exact this
theorem readHead_end (ls0 ls : List ByteArray) (st : ReqSt) (i : Int) (hi : ¬ i < (ls.length : Int)) (h : StP 1048577 st) :
    Ev (fun k => impl_readHead.l0 k ls0 ls (ls.length : Int) i st.1 st.2.1 st.2.2.1 st.2.2.2.1 st.2.2.2.2.1 st.2.2.2.2.2.1 st.2.2.2.2.2.2.1 st.2.2.2.2.2.2.2.1 st.2.2.2.2.2.2.2.2) (flatR (st, rhCode st)) := by
  obtain ⟨m, p, hs', b, co, ch, sz, td, bad⟩ := st
  obtain ⟨h1, h2, h3, h4⟩ := h
  simp only [stHs, stCo, stSz] at h1 h2 h3 h4
  have hlow := impl_Lower_ev co h3
  have hlit : ((lower co).toList = ([99, 104, 117, 110, 107, 101, 100] : List UInt8)) ↔ bytesOf (lower co) = CHb := lit_iff _ _
  have j2 : ∀ x : Bool, (x = true ↔ ch = true ∧ bytesOf (lower co) ≠ CHb) → Ev (fun k => impl_readHead.j2 k x m p hs' b co ch sz td bad) (m, p, hs', b, co, ch, sz, td, bad, if ch = true ∧ bytesOf (lower co) ≠ CHb then 501 else if 200 < sz then 413 else 0) := by
    intro x hx
    apply ev_succ
    simp only [impl_readHead.j2]
    by_cases q : x = true
    · rw [if_pos (hx.1 q)]; simp only [if_pos q]; exact Ev.now _
    · rw [if_neg (fun h => q (hx.2 h))]; simp only [if_neg q]
      by_cases q1 : sz > 200
      · rw [if_pos (show 200 < sz from q1)]; simp only [if_pos q1]; exact Ev.now _
      · rw [if_neg (show ¬ 200 < sz from q1)]; simp only [if_neg q1]; exact Ev.now _
  show Ev _ (m, p, hs', b, co, ch, sz, td, bad, rhCode (m, p, hs', b, co, ch, sz, td, bad))
  rw [rhCode_eq]
  apply ev_succ
  simp only [impl_readHead.l0, if_neg hi]
  by_cases c0 : bad = true
  · simp only [if_pos c0]; exact Ev.now _
  simp only [if_neg c0]
  by_cases c1 : (hs'.length : Int) > 8
  · simp only [if_pos c1, if_pos (show 8 < hs'.length by omega)]; exact Ev.now _
  simp only [if_neg c1, if_neg (show ¬ 8 < hs'.length by omega)]
  cases ch with
  | true =>
    simp only [if_true]
    refine Ev.bind hlow ?_
    have := j2 ((lower co).toList != ([99, 104, 117, 110, 107, 101, 100] : List UInt8)) (by
      rw [bne_iff_ne, Ne, hlit]; simp)
    simpa using this
  | false =>
    simp only [Bool.false_eq_true, if_false]
    have := j2 false (by simp)
    simpa using this
theorem readHead_l0 (ls0 ls : List ByteArray) (hx : ∀ x ∈ ls, x.size ≤ 1048576) (hn : ls.length ≤ 1048576) : ∀ (m i : Nat) (st : ReqSt), ls.length - i = m → i ≤ ls.length → StP i st →
    Ev (fun k => impl_readHead.l0 k ls0 ls (ls.length : Int) (i : Int) st.1 st.2.1 st.2.2.1 st.2.2.2.1 st.2.2.2.2.1 st.2.2.2.2.2.1 st.2.2.2.2.2.2.1 st.2.2.2.2.2.2.2.1 st.2.2.2.2.2.2.2.2) (flatR (rhLs (ls.drop i) st, rhCode (rhLs (ls.drop i) st)))
  | 0, i, st, hm, hi, h => by
    have he : i = ls.length := by omega
    subst he
    rw [List.drop_length]
    exact readHead_end ls0 ls st _ (by omega) ⟨by have := h.1; omega, h.2⟩
  | m + 1, i, st, hm, hi, h => by
    have hlt : i < ls.length := by omega
    have hsz := hx ls[i] (List.getElem_mem hlt)
    have ih := readHead_l0 ls0 ls hx hn m (i + 1) (lineS ls[i] st) (by omega) (by omega) (lineS_P h hsz)
    have hw1 : wrap64 ((i : Int) + 1) = ((i + 1 : Nat) : Int) := by rw [wrap_id (by omega) (by omega)]; rfl
    have hgt : ls[i]? = some ls[i] := List.getElem?_eq_getElem hlt
    have hrd : rdOf ByteArray.empty ls (i : Int) = ls[i] := by rw [rdOf_at, List.getD_eq_getElem?_getD, hgt]; rfl
    have hd : ls.drop i = ls[i] :: ls.drop (i + 1) := List.drop_eq_getElem_cons hlt
    have hfold : rhLs (ls.drop i) st = rhLs (ls.drop (i + 1)) (lineS ls[i] st) := by rw [hd]; rfl
    rw [hfold]
    have hl := h.1
    obtain ⟨a0, a1, a2, a3, a4, a5, a6, a7, a8⟩ := st
    simp only [stHs] at hl
    have hline := line_ev ls[i] a0 a1 a2 a3 a4 a5 a6 a7 a8 hsz (by omega)
    apply ev_succ
    simp only [impl_readHead.l0, if_pos (show (i : Int) < (ls.length : Int) by omega), if_pos (show (0 : Int) ≤ (i : Int) by omega), hrd, hw1]
    exact Ev.bind hline ih
theorem split_one (s : ByteArray) (c : UInt8) (h : s.size ≤ 1048576) : strings_Split.f s (⟨#[c]⟩ : ByteArray) = some (partsG (c.toNat : Int) (bytesOf s)) := by
  unfold strings_Split.f
  rw [if_pos ⟨by omega, Nat.le_refl 1⟩, splitB_partsG c s.size s (Nat.le_refl _)]
theorem splG_size (c : Int) : ∀ (l cur : List Int), ∀ a ∈ splG c cur l, a.length ≤ cur.length + l.length
  | [], cur, a, h => by simp [splG] at h; subst h; simp
  | x :: r, cur, a, h => by
    rw [splG] at h
    split at h
    · simp only [List.mem_cons] at h
      rcases h with h | h
      · subst h; omega
      · have := splG_size c r [] a h; simp only [List.length_nil, List.length_cons] at this ⊢; omega
    · have := splG_size c r _ a h; simp only [List.length_append, List.length_cons, List.length_nil] at this ⊢; omega
theorem partsG_size (c : Int) (l : List Int) (i : Nat) : ((partsG c l).getD i ByteArray.empty).size ≤ l.length := by
  rw [List.getD_eq_getElem?_getD]
  rcases Nat.lt_or_ge i (partsG c l).length with h | h
  · rw [List.getElem?_eq_getElem h]
    show ((partsG c l)[i]).size ≤ _
    obtain ⟨a, ha, e⟩ := List.mem_map.1 (List.getElem_mem h)
    rw [← e, strOfNums_size]
    have := splG_size c l [] a ha
    simpa using this
  · rw [List.getElem?_eq_none h]; exact Nat.zero_le _
theorem readHead_ev (l : List Int) (hl : l.length ≤ 1048576) (hr : ∀ x ∈ l, 0 ≤ x ∧ x < 256) : Ev (fun k => impl_readHead.f k (strOfNums l)) (flatR (rhS l)) := by
  have hln := linesC_len l
  have hsz := linesC_size hr
  unfold impl_readHead.f rhS
  simp only [split_lines l hl hr, Option.bind_some]
  generalize linesC l = ls at hln hsz
  have h00 : rdOf ByteArray.empty ls 0 = ls.getD 0 ByteArray.empty := rdOf_at ls 0
  have hg : (ls.getD 0 ByteArray.empty).size ≤ 1048576 := by
    rw [List.getD_eq_getElem?_getD, List.getElem?_eq_getElem (show 0 < ls.length by omega)]
    have := hsz ls[0] (List.getElem_mem _)
    show ls[0].size ≤ _
    omega
  simp only [if_pos (show (0 : Int) < (ls.length : Int) by omega), h00, split_one _ 32 hg, Option.bind_some, show ((32 : UInt8).toNat : Int) = 32 from rfl]
  have hps := partsG_size 32 (bytesOf (ls.getD 0 ByteArray.empty))
  rw [bytesOf_length] at hps
  generalize partsG 32 (bytesOf (ls.getD 0 ByteArray.empty)) = ps at hps
  have g0 : rdOf ByteArray.empty ps 0 = ps.getD 0 ByteArray.empty := rdOf_at ps 0
  have g1 : rdOf ByteArray.empty ps 1 = ps.getD 1 ByteArray.empty := rdOf_at ps 1
  have g2 : rdOf ByteArray.empty ps 2 = ps.getD 2 ByteArray.empty := rdOf_at ps 2
  have hlit : ((ps.getD 2 ByteArray.empty).toList = ([72, 84, 84, 80, 47, 49, 46, 49] : List UInt8)) ↔ bytesOf (ps.getD 2 ByteArray.empty) = H11b := lit_iff _ _
  have jbad : Ev (fun k => impl_readHead.j0 k ls ps true (⟨#[]⟩ : ByteArray) (⟨#[]⟩ : ByteArray) ([] : List S88) (⟨#[]⟩ : ByteArray) (⟨#[]⟩ : ByteArray) false 0 false false) (flatR (stZ, 400)) := by
    apply ev_succ; simp only [impl_readHead.j0, if_true]; exact Ev.now _
  by_cases q0 : ps.length = 3
  · simp only [if_pos (show (ps.length : Int) = 3 by omega), if_pos (show (2 : Int) < (ps.length : Int) by omega), g0, g1, g2]
    by_cases q1 : bytesOf (ps.getD 2 ByteArray.empty) = H11b
    · simp only [if_pos (hlit.2 q1), if_pos (show (0 : Int) < (ps.length : Int) by omega), if_pos (show (1 : Int) < (ps.length : Int) by omega)]
      refine Ev.bind (impl_lineOk_ev _ _ (Nat.le_trans (hps 0) hg) (Nat.le_trans (hps 1) hg)) ?_
      by_cases q2 : (methodOk (ps.getD 0 ByteArray.empty) && targetOk (ps.getD 1 ByteArray.empty)) = true
      · rw [if_pos ⟨q0, q1, q2⟩, q2]
        apply ev_succ
        simp only [impl_readHead.j0, Bool.not_true, Bool.false_eq_true, if_false, if_pos (show (0 : Int) < (ps.length : Int) by omega), if_pos (show (1 : Int) < (ps.length : Int) by omega), if_pos (show (1 : Int) ≤ (ls.length : Int) by omega), Option.bind_some, g0, g1]
        have hd : ∀ x ∈ ls.drop 1, x.size ≤ 1048576 := fun x hx => by have := hsz x (List.mem_of_mem_drop hx); omega
        exact readHead_l0 ls (ls.drop 1) hd (by rw [List.length_drop]; omega) _ 0 (ps.getD 0 ByteArray.empty, ps.getD 1 ByteArray.empty, [], ⟨#[]⟩, ⟨#[]⟩, false, 0, false, false) rfl (Nat.zero_le _) ⟨Nat.le_refl 0, fun x hx => absurd hx (by simp [stHs]), by simp only [stCo]; decide, Int.le_refl 0⟩
      · rw [if_neg (fun h => q2 h.2.2), Bool.not_eq_true _ |>.mp q2]; exact jbad
    · simp only [if_neg (fun h => q1 (hlit.1 h))]
      rw [if_neg (fun h => q1 h.2.1)]; exact jbad
  · simp only [if_neg (show ¬ (ps.length : Int) = 3 by omega)]
    rw [if_neg (fun h => q0 h.1)]; exact jbad
abbrev ReqR := ByteArray × ByteArray × List S88 × ByteArray × Int × Int
def badQ (c : Int) : ReqR := (⟨#[]⟩, ⟨#[]⟩, [], ⟨#[]⟩, 0, c)
def getC (l : List Int) (e : Nat) (m p : ByteArray) (hs : List S88) (ch : Bool) (sz : Int) (code : Int) : ReqR :=
  if code ≠ 0 then badQ code
  else if ch = true then
    (if (chR (l.length + 1) (l.drop e) []).2.2 = 0 then (m, p, hs, strOfNums (chR (l.length + 1) (l.drop e) []).1, (l.length : Int) - ((chR (l.length + 1) (l.drop e) []).2.1.length : Int), 0) else badQ (chR (l.length + 1) (l.drop e) []).2.2)
  else if l.length < e + sz.toNat then badQ 1
  else (m, p, hs, strOfNums ((l.drop e).take sz.toNat), ((e + sz.toNat : Nat) : Int), 0)
/-- what GetReq answers: the request, where it ends, a code -/
def getQ (l : List Int) : ReqR :=
  if headEnd l < 0 then (if 400 < l.length then badQ 431 else badQ 1)
  else getC l (headEnd l).toNat (rhS (l.take ((headEnd l).toNat - 4))).1.1 (rhS (l.take ((headEnd l).toNat - 4))).1.2.1 (stHs (rhS (l.take ((headEnd l).toNat - 4))).1) (stCh (rhS (l.take ((headEnd l).toNat - 4))).1) (stSz (rhS (l.take ((headEnd l).toNat - 4))).1) (rhS (l.take ((headEnd l).toNat - 4))).2
theorem rhS_P (l : List Int) (hl : l.length ≤ 1048575) (hr : ∀ x ∈ l, 0 ≤ x ∧ x < 256) : StP 1048577 (rhS l).1 ∧ ((rhS l).2 = 0 → stSz (rhS l).1 ≤ 200 ∧ (stHs (rhS l).1).length ≤ 8) ∧ (rhS l).2 ≠ 1 := by
  unfold rhS
  split
  · have hsz := linesC_size hr
    have hln := linesC_len l
    have h := rhLs_P ((linesC l).drop 1) 0 ((partsG 32 (bytesOf ((linesC l).getD 0 ByteArray.empty))).getD 0 ByteArray.empty, (partsG 32 (bytesOf ((linesC l).getD 0 ByteArray.empty))).getD 1 ByteArray.empty, [], ⟨#[]⟩, ⟨#[]⟩, false, 0, false, false)
      ⟨Nat.le_refl 0, fun x hx => absurd hx (by simp [stHs]), by simp only [stCo]; decide, Int.le_refl 0⟩ (fun x hx => by have := hsz x (List.mem_of_mem_drop hx); omega)
    rw [List.length_drop] at h
    simp only []
    generalize rhLs ((linesC l).drop 1) ((partsG 32 (bytesOf ((linesC l).getD 0 ByteArray.empty))).getD 0 ByteArray.empty, (partsG 32 (bytesOf ((linesC l).getD 0 ByteArray.empty))).getD 1 ByteArray.empty, [], ⟨#[]⟩, ⟨#[]⟩, false, 0, false, false) = st at h
    refine ⟨⟨by have := h.1; omega, h.2⟩, ?_, ?_⟩
    · unfold rhCode
      split
      · intro h; exact absurd h (by decide)
      · split
        · intro h; exact absurd h (by decide)
        · split
          · intro h; exact absurd h (by decide)
          · split
            · intro h; exact absurd h (by decide)
            · intro _; exact ⟨by omega, by omega⟩
    · unfold rhCode
      repeat' split
      all_goals decide
  · exact ⟨⟨Nat.zero_le _, fun x hx => absurd hx (by simp [stHs, stZ]), by simp only [stCo, stZ]; decide, Int.le_refl 0⟩, fun h => absurd h (by decide), by decide⟩
theorem getReq_ev (l : List Int) (hl : l.length ≤ 1048575) (hr : ∀ x ∈ l, 0 ≤ x ∧ x < 256) : Ev (fun k => impl_GetReq.f k l) (getQ l) := by
  unfold impl_GetReq.f getQ
  rw [impl_HeadEnd_eq l hr]
  simp only [Option.bind_some]
  have hb := fnd4_bound (l.take 400) 0
  have h4 := fnd4_4 (l.take 400) 0
  rw [List.length_take] at hb h4
  change headEnd l ≤ _ ∧ _ at hb
  change 0 ≤ headEnd l → _ at h4
  by_cases q0 : headEnd l < 0
  · rw [if_pos q0]; simp only [if_pos q0]
    by_cases q1 : (l.length : Int) > 400
    · rw [if_pos (show 400 < l.length by omega)]; simp only [if_pos q1]; exact Ev.now _
    · rw [if_neg (show ¬ 400 < l.length by omega)]; simp only [if_neg q1]; exact Ev.now _
  rw [if_neg q0]; simp only [if_neg q0]
  have h44 : (4 : Int) ≤ headEnd l := by have := (h4 (by omega)).1; change (0 : Int) + 4 ≤ headEnd l at this; omega
  obtain ⟨e, he⟩ : ∃ e : Nat, headEnd l = (e : Int) := ⟨(headEnd l).toNat, by omega⟩
  rw [he] at hb h44
  simp only [he, Int.toNat_natCast]
  clear h4 q0
  have hw : wrap64 ((e : Int) - 4) = ((e - 4 : Nat) : Int) := by rw [wrap_id (by omega) (by omega)]; omega
  simp only [hw, if_pos (show (0 : Int) ≤ ((e - 4 : Nat) : Int) by omega), if_pos (show ((e - 4 : Nat) : Int) ≤ (l.length : Int) by omega), Int.toNat_natCast]
  have hrt : ∀ x ∈ l.take (e - 4), 0 ≤ x ∧ x < 256 := fun x hx => hr x (List.mem_of_mem_take hx)
  have hlt : (l.take (e - 4)).length ≤ 1048575 := by rw [List.length_take]; omega
  obtain ⟨hP, hP2, _⟩ := rhS_P (l.take (e - 4)) hlt hrt
  have hrh := readHead_ev (l.take (e - 4)) (by omega) hrt
  generalize rhS (l.take (e - 4)) = r at hP hP2 hrh
  obtain ⟨⟨m, p, hs, b, co, ch, sz, td, bad⟩, code⟩ := r
  have hrh' : Ev (fun k => impl_readHead.f k (strOfNums (l.take (e - 4)))) (m, p, hs, b, co, ch, sz, td, bad, code) := hrh
  refine Ev.bind hrh' ?_
  have hs1 : (0 : Int) ≤ sz := hP.2.2.2
  have hs3 : code = 0 → sz ≤ 200 := fun h => (hP2 h).1
  clear hP hP2 hrh hrh'
  show Ev _ (getC l e m p hs ch sz code)
  unfold getC
  by_cases q1 : code = 0
  · simp only [if_neg (show ¬ code ≠ 0 from fun h => h q1), if_pos q1]
    have hs2 := hs3 q1
    clear hs3
    cases ch with
    | true =>
      simp only [if_true]
      refine Ev.bind (GetChunks_impl l (by omega) hr e (by omega) (l.length + 1) (by rw [List.length_drop]; omega)) ?_
      generalize chR (l.length + 1) (l.drop e) [] = c
      obtain ⟨c0, c1, c2⟩ := c
      by_cases q2 : c2 = 0
      · subst q2
        rw [chV_good]
        simp only [if_true]; exact Ev.now _
      · rw [chV_bad _ _ _ q2]
        simp only [if_neg q2]; exact Ev.now _
    | false =>
      simp only [Bool.false_eq_true, if_false]
      obtain ⟨z, hz⟩ : ∃ z : Nat, sz = (z : Int) := ⟨sz.toNat, by omega⟩
      subst hz
      have hw2 : wrap64 ((e : Int) + (z : Int)) = ((e + z : Nat) : Int) := by rw [wrap_id (by omega) (by omega)]; rfl
      simp only [hw2, Int.toNat_natCast]
      clear hw2 hs1 hs2 hw hb h44 hlt hrt hl hr he q1
      by_cases q2 : l.length < e + z
      · rw [if_pos q2]
        simp only [if_pos (show ((e + z : Nat) : Int) > (l.length : Int) by omega), if_neg (show ¬ (1 : Int) = 0 by decide)]
        exact Ev.now _
      · rw [if_neg q2]
        simp only [if_neg (show ¬ ((e + z : Nat) : Int) > (l.length : Int) by omega), if_pos (show (0 : Int) ≤ (e : Int) by omega), if_pos (show (e : Int) ≤ ((e + z : Nat) : Int) by omega), if_pos (show ((e + z : Nat) : Int) ≤ (l.length : Int) by omega)]
        have ed : (l.take (e + z)).drop e = (l.drop e).take z := by rw [List.drop_take, Nat.add_sub_cancel_left]
        rw [ed]
        exact Ev.now _
  · simp only [if_pos (show code ≠ 0 from q1), if_neg q1]
    exact Ev.now _

/-! what more bytes behind change of what GetReq answers -/
def qEnd (r : ReqR) : Int := r.2.2.2.2.1
def qCode (r : ReqR) : Int := r.2.2.2.2.2
theorem fnd4_over : ∀ (t y : List Int) (i : Nat), (0 ≤ fnd4 i t → fnd4 i (t ++ y) = fnd4 i t) ∧ (fnd4 i t < 0 → 0 ≤ fnd4 i (t ++ y) → ((i + t.length : Nat) : Int) < fnd4 i (t ++ y))
  | [], y, i => ⟨fun h => absurd h (by simp [fnd4]), fun _ h => by have := (fnd4_4 y i h).1; simp only [List.nil_append, List.length_nil] at this ⊢; omega⟩
  | c :: r, y, i => by
    obtain ⟨h1, h2⟩ := fnd4_over r y (i + 1)
    rw [List.cons_append, fnd4, fnd4]
    by_cases q : (c :: r).take 4 = [13, 10, 13, 10]
    · have hl : 4 ≤ (c :: r).length := by have := congrArg List.length q; rw [List.length_take] at this; simp at this ⊢; omega
      have q' : (c :: (r ++ y)).take 4 = [13, 10, 13, 10] := by rw [← List.cons_append, List.take_append_of_le_length hl]; exact q
      rw [if_pos q, if_pos q']
      exact ⟨fun _ => rfl, fun h => by omega⟩
    · rw [if_neg q]
      by_cases q' : (c :: (r ++ y)).take 4 = [13, 10, 13, 10]
      · rw [if_pos q']
        have hl : ¬ 4 ≤ (c :: r).length := fun hl => q (by rw [← List.cons_append, List.take_append_of_le_length hl] at q'; exact q')
        refine ⟨fun h => ?_, fun _ _ => by omega⟩
        rw [fnd4_short r (i + 1) (by simp at hl; omega)] at h
        exact absurd h (by decide)
      · rw [if_neg q']
        refine ⟨h1, fun a b => ?_⟩
        have := h2 a b
        rw [List.length_cons]; omega
theorem headEnd_app (p y : List Int) : (0 ≤ headEnd p → headEnd (p ++ y) = headEnd p) ∧ (headEnd p < 0 → 0 ≤ headEnd (p ++ y) → (p.length : Int) < headEnd (p ++ y)) := by
  unfold headEnd
  rw [List.take_append]
  obtain ⟨h1, h2⟩ := fnd4_over (p.take 400) (y.take (400 - p.length)) 0
  refine ⟨h1, fun a b => ?_⟩
  have := h2 a b
  rw [List.length_take] at this
  by_cases q : p.length < 400
  · omega
  · rw [show 400 - p.length = 0 by omega, List.take_zero, List.append_nil] at b
    omega
theorem getC_end (l : List Int) (e : Nat) (he : e ≤ l.length) (m p : ByteArray) (hs : List S88) (ch : Bool) (sz code : Int) : qCode (getC l e m p hs ch sz code) = 0 → (e : Int) ≤ qEnd (getC l e m p hs ch sz code) := by
  unfold getC
  split
  · intro h; exact absurd h (by assumption)
  · split
    · split
      · rename_i h0
        have h1 := chR_len _ _ _ h0
        rw [List.length_drop] at h1
        intro _
        show (e : Int) ≤ (l.length : Int) - _
        omega
      · intro h; exact absurd h (by assumption)
    · split
      · intro h; exact absurd (show (1 : Int) = 0 from h) (by decide)
      · intro _
        show (e : Int) ≤ ((e + sz.toNat : Nat) : Int)
        omega
theorem getC_app (p y : List Int) (e : Nat) (he : e ≤ p.length) (m q : ByteArray) (hs : List S88) (ch : Bool) (sz code : Int) :
    (qCode (getC p e m q hs ch sz code) = 0 → getC (p ++ y) e m q hs ch sz code = getC p e m q hs ch sz code) ∧
    (qCode (getC p e m q hs ch sz code) ≠ 0 → qCode (getC p e m q hs ch sz code) ≠ 1 → qCode (getC (p ++ y) e m q hs ch sz code) = qCode (getC p e m q hs ch sz code)) ∧
    (qCode (getC p e m q hs ch sz code) = 1 → qCode (getC (p ++ y) e m q hs ch sz code) = 0 → (p.length : Int) < qEnd (getC (p ++ y) e m q hs ch sz code)) := by
  have ed : (p ++ y).drop e = p.drop e ++ y := List.drop_append_of_le_length he
  unfold getC
  by_cases c0 : code ≠ 0
  · rw [if_pos c0, if_pos c0]
    exact ⟨fun _ => rfl, fun _ _ => rfl, fun _ h => absurd h c0⟩
  rw [if_neg c0, if_neg c0]
  by_cases c1 : ch = true
  · rw [if_pos c1, if_pos c1, ed]
    obtain ⟨k0, kc, k1⟩ := chR_app (p.length + 1) ((p ++ y).length + 1) (p.drop e) [] y (by rw [List.length_drop]; omega) (by rw [List.length_append, List.length_append, List.length_drop]; omega)
    by_cases c2 : (chR (p.length + 1) (p.drop e) []).2.2 = 0
    · rw [if_pos c2, k0 c2]
      simp only [if_true]
      refine ⟨fun _ => ?_, fun h => absurd rfl h, fun h => absurd (show (0 : Int) = 1 from h) (by decide)⟩
      have hle := chR_len _ _ _ c2
      simp only [Prod.mk.injEq, true_and, and_true, List.length_append]
      omega
    · rw [if_neg c2]
      refine ⟨fun h => absurd h c2, fun a b => ?_, fun a => ?_⟩
      · have h := kc c2 b
        rw [if_neg (by rw [h]; exact c2), h]
      · split
        · rename_i h0
          have h := k1 a h0
          intro _
          rw [List.length_append] at h ⊢
          show (p.length : Int) < ((p.length + y.length : Nat) : Int) - _
          omega
        · intro h; exact absurd h (by assumption)
  · rw [if_neg c1, if_neg c1]
    by_cases c2 : p.length < e + sz.toNat
    · rw [if_pos c2]
      refine ⟨fun h => absurd (show (1 : Int) = 0 from h) (by decide), fun _ h => absurd rfl h, fun _ => ?_⟩
      split
      · intro h; exact absurd (show (1 : Int) = 0 from h) (by decide)
      · intro _
        show (p.length : Int) < ((e + sz.toNat : Nat) : Int)
        omega
    · rw [if_neg c2, if_neg (by rw [List.length_append]; omega), ed, List.take_append_of_le_length (by rw [List.length_drop]; omega)]
      exact ⟨fun _ => rfl, fun _ _ => rfl, fun h => absurd (show (0 : Int) = 1 from h) (by decide)⟩
theorem headEnd_le (l : List Int) : headEnd l ≤ l.length := by
  have := (fnd4_bound (l.take 400) 0).1
  rw [List.length_take] at this
  unfold headEnd; omega
theorem getQ_app (p y : List Int) :
    (qCode (getQ p) = 0 → getQ (p ++ y) = getQ p) ∧ (qCode (getQ p) ≠ 0 → qCode (getQ p) ≠ 1 → qCode (getQ (p ++ y)) = qCode (getQ p)) ∧
    (qCode (getQ p) = 1 → qCode (getQ (p ++ y)) = 0 → (p.length : Int) < qEnd (getQ (p ++ y))) := by
  obtain ⟨h1, h2⟩ := headEnd_app p y
  unfold getQ
  by_cases c0 : headEnd p < 0
  · rw [if_pos c0]
    by_cases c1 : 400 < p.length
    · have c2 : headEnd (p ++ y) < 0 := by
        have e : (p ++ y).take 400 = p.take 400 := List.take_append_of_le_length (by omega)
        unfold headEnd at c0 ⊢
        rw [e]; exact c0
      rw [if_pos c1, if_pos c2, if_pos (by rw [List.length_append]; omega)]
      exact ⟨fun _ => rfl, fun _ _ => rfl, fun h => absurd (show (431 : Int) = 1 from h) (by decide)⟩
    · rw [if_neg c1]
      refine ⟨fun h => absurd (show (1 : Int) = 0 from h) (by decide), fun _ h => absurd rfl h, fun _ => ?_⟩
      split
      · split
        · intro h; exact absurd (show (431 : Int) = 0 from h) (by decide)
        · intro h; exact absurd (show (1 : Int) = 0 from h) (by decide)
      · intro h
        have hle := headEnd_le (p ++ y)
        have h3 := getC_end (p ++ y) (headEnd (p ++ y)).toNat (by omega) _ _ _ _ _ _ h
        have h4 := h2 c0 (by omega)
        omega
  · rw [if_neg c0]
    have e := h1 (by omega)
    have hle := headEnd_le p
    rw [e, if_neg c0]
    have et : (p ++ y).take ((headEnd p).toNat - 4) = p.take ((headEnd p).toNat - 4) := List.take_append_of_le_length (by omega)
    rw [et]
    exact getC_app p y (headEnd p).toNat (by omega) _ _ _ _ _ _
/-- what is answered at the bytes' beginning, told for all of them -/
theorem getQ_take (l : List Int) (n : Nat) (hn : n ≤ l.length) :
    (qCode (getQ (l.take n)) = 0 → getQ l = getQ (l.take n)) ∧ (qCode (getQ (l.take n)) ≠ 0 → qCode (getQ (l.take n)) ≠ 1 → qCode (getQ l) = qCode (getQ (l.take n))) ∧
    (qCode (getQ (l.take n)) = 1 → qCode (getQ l) = 0 → (n : Int) < qEnd (getQ l)) := by
  have h := getQ_app (l.take n) (l.drop n)
  rw [List.take_append_drop, List.length_take, Nat.min_eq_left hn] at h
  exact h

/-! what is drawn: something, with what is known of it -/
theorem bits255 (x : Int) : 0 ≤ Go.bits .and .i64 x 255 ∧ Go.bits .and .i64 x 255 ≤ 255 := by
  have h2 : (BitVec.ofInt 64 x).toNat &&& 255 ≤ 255 := Nat.and_le_right
  have h : Go.bits .and .i64 x 255 = IntKind.i64.wrap (((BitVec.ofInt 64 x &&& BitVec.ofInt 64 255).toNat : Nat) : Int) := rfl
  have e : (BitVec.ofInt 64 255).toNat = 255 := by decide
  rw [h, BitVec.toNat_and, e, IntKind.wrap_i64]
  omega
def Dr {α : Type} (f : List Int → Int → Int → Option (α × Int × Int)) (P : α → Prop) : Prop :=
  ∀ (b : List Int) (i h : Int), b.length ≤ 1048576 → 0 ≤ i → i ≤ b.length → ∃ x i' h', f b i h = some (x, i', h') ∧ P x ∧ 0 ≤ i' ∧ i' ≤ b.length
theorem l1New_ev (l : List Int) (hl : l.length ≤ 1048576) : ∃ h, Ev (fun k => spec_l1New.f k l) (l, (0 : Int), h) := by
  have key : ∀ n i (x : Int), l.length - i = n → ∃ h, Ev (fun k => spec_l1New.l0 k l x (i : Int)) (l, (0 : Int), h) := by
    intro n
    induction n with
    | zero =>
      intro i x hn
      refine ⟨x, ?_⟩
      apply ev_succ; simp only [spec_l1New.l0, if_neg (show ¬ (i : Int) < (l.length : Int) by omega)]; exact Ev.now _
    | succ n ih =>
      intro i x hn
      by_cases h4 : (i : Int) < 4000
      · obtain ⟨h, hh⟩ := ih (i + 1) (Go.bits .and .i64 (wrap64 ((wrap64 ((wrap64 (x * 137)) + (wrap64 (rd l i)))) + 11)) 1073741823) (by omega)
        refine ⟨h, ?_⟩
        apply ev_succ
        simp only [spec_l1New.l0, if_pos (show (i : Int) < (l.length : Int) by omega), if_pos h4, if_pos (show (0 : Int) ≤ (i : Int) by omega), wrap_id (x := (i : Int) + 1) (by omega) (by omega)]
        exact hh
      · refine ⟨x, ?_⟩
        apply ev_succ; simp only [spec_l1New.l0, if_pos (show (i : Int) < (l.length : Int) by omega), if_neg h4]; exact Ev.now _
  exact key _ 0 _ rfl
theorem l1Byte_dr : Dr spec_l1Byte.f (fun x => 0 ≤ x ∧ x ≤ 255) := by
  intro b i h hb h0 h1
  unfold spec_l1Byte.f
  by_cases q : i < (b.length : Int)
  · rw [if_pos q, if_pos h0]
    exact ⟨_, _, _, rfl, bits255 _, by rw [wrap_id (by omega) (by omega)]; omega, by rw [wrap_id (by omega) (by omega)]; omega⟩
  · rw [if_neg q]
    exact ⟨_, _, _, rfl, bits255 _, h0, h1⟩
theorem tmod_range (x n : Int) (hx : 0 ≤ x) (hn : 0 < n) : 0 ≤ Int.tmod x n ∧ Int.tmod x n < n := by
  rw [Int.tmod_eq_emod_of_nonneg hx]
  exact ⟨Int.emod_nonneg _ (by omega), Int.emod_lt_of_pos _ hn⟩
theorem l1Below_dr (n : Int) : Dr (fun b i h => spec_l1Below.f b i h n) (fun x => 0 ≤ x ∧ (0 < n → x < n)) := by
  intro b i h hb h0 h1
  show ∃ x i' h', spec_l1Below.f b i h n = some (x, i', h') ∧ _
  unfold spec_l1Below.f
  by_cases q : n ≤ 0
  · rw [if_pos q]
    exact ⟨_, _, _, rfl, ⟨by omega, by omega⟩, h0, h1⟩
  · rw [if_neg q]
    obtain ⟨x, i1, e1, f1, p1, a1, b1⟩ := l1Byte_dr b i h hb h0 h1
    by_cases q1 : n ≤ 256
    · rw [if_pos q1, f1]
      simp only [Option.bind_some, if_neg (show ¬ n = 0 by omega)]
      have := tmod_range x n p1.1 (by omega)
      exact ⟨_, _, _, rfl, ⟨this.1, fun _ => this.2⟩, a1, b1⟩
    · rw [if_neg q1, f1]
      obtain ⟨y, i2, e2, f2, p2, a2, b2⟩ := l1Byte_dr b i1 e1 hb a1 b1
      obtain ⟨z, i3, e3, f3, p3, a3, b3⟩ := l1Byte_dr b i2 e2 hb a2 b2
      simp only [Option.bind_some, f2, f3, if_neg (show ¬ n = 0 by omega)]
      rw [wrap_id (x := x * 65536) (by omega) (by omega), wrap_id (x := y * 256) (by omega) (by omega), wrap_id (x := x * 65536 + y * 256) (by omega) (by omega), wrap_id (x := x * 65536 + y * 256 + z) (by omega) (by omega)]
      have := tmod_range (x * 65536 + y * 256 + z) n (by omega) (by omega)
      exact ⟨_, _, _, rfl, ⟨this.1, fun _ => this.2⟩, a3, b3⟩

theorem l1Str_dr (l : List ByteArray) (hl : 0 < l.length) : Dr (fun b i h => spec_l1Str.f b i h l) (fun x => x ∈ l) := by
  intro b i h hb h0 h1
  obtain ⟨x, i1, e1, f1, p1, a1, b1⟩ := l1Below_dr (l.length : Int) b i h hb h0 h1
  have f1' : spec_l1Below.f b i h (l.length : Int) = some (x, i1, e1) := f1
  have hx := p1.2 (by omega)
  show ∃ x i' h', spec_l1Str.f b i h l = some (x, i', h') ∧ _
  unfold spec_l1Str.f
  rw [f1']
  simp only [Option.bind_some, if_pos p1.1, if_pos hx]
  refine ⟨_, _, _, rfl, ?_, a1, b1⟩
  have hn : x.toNat < l.length := by omega
  rw [rdOf, List.getD_eq_getElem?_getD, List.getElem?_eq_getElem hn]
  exact List.getElem_mem hn
theorem l1Int_dr (l : List Int) (hl : 0 < l.length) : Dr (fun b i h => spec_l1Int.f b i h l) (fun x => x ∈ l) := by
  intro b i h hb h0 h1
  obtain ⟨x, i1, e1, f1, p1, a1, b1⟩ := l1Below_dr (l.length : Int) b i h hb h0 h1
  have f1' : spec_l1Below.f b i h (l.length : Int) = some (x, i1, e1) := f1
  have hx := p1.2 (by omega)
  show ∃ x i' h', spec_l1Int.f b i h l = some (x, i', h') ∧ _
  unfold spec_l1Int.f
  rw [f1']
  simp only [Option.bind_some, if_pos p1.1, if_pos hx]
  refine ⟨_, _, _, rfl, ?_, a1, b1⟩
  have hn : x.toNat < l.length := by omega
  rw [rd, List.getD_eq_getElem?_getD, List.getElem?_eq_getElem hn]
  exact List.getElem_mem hn
def HdP (l : List S88) : Prop := l.length ≤ 20 ∧ ∀ x ∈ l, x.f0.size ≤ 100 ∧ x.f1.size ≤ 100
theorem HdP_snoc {l : List S88} {x : S88} {n : Nat} (h : HdP l) (hn : l.length ≤ n) (hn9 : n < 20) (h0 : x.f0.size ≤ 100) (h1 : x.f1.size ≤ 100) : HdP (l ++ [x]) ∧ (l ++ [x]).length ≤ n + 1 := by
  refine ⟨⟨by rw [List.length_append]; simp; omega, fun y hy => ?_⟩, by rw [List.length_append]; simp; omega⟩
  rcases List.mem_append.1 hy with hy | hy
  · exact h.2 y hy
  · simp only [List.mem_cons, List.not_mem_nil, or_false] at hy
    subst hy; exact ⟨h0, h1⟩
theorem l3DrawHeads_l0 : ∀ (n : Nat) (x : List S88) (b : List Int) (i h : Int), n ≤ 5 → HdP x → x.length ≤ 9 - n → b.length ≤ 1048576 → 0 ≤ i → i ≤ b.length → ∃ l i' h', Ev (fun k => spec_l3DrawHeads.l0 k x (n : Int) b i h) (l, i', h') ∧ HdP l ∧ l.length ≤ 9 ∧ 0 ≤ i' ∧ i' ≤ b.length
  | 0, x, b, i, h, hn, hx, hl, hb, h0, h1 => by
    refine ⟨x, i, h, ?_, hx, by omega, h0, h1⟩
    apply ev_succ
    simp only [spec_l3DrawHeads.l0, if_neg (show ¬ ((0 : Nat) : Int) > 0 by omega)]
    exact Ev.now _
  | n + 1, x, b, i, h, hn, hx, hl, hb, h0, h1 => by
    obtain ⟨y, i1, e1, f1, p1, a1, b1⟩ := l1Str_dr [(⟨#[105, 102]⟩ : ByteArray), (⟨#[100, 101, 112, 116, 104]⟩ : ByteArray), (⟨#[120, 45, 97]⟩ : ByteArray), (⟨#[104, 111, 115, 116]⟩ : ByteArray), (⟨#[105, 102, 45, 109, 97, 116, 99, 104]⟩ : ByteArray)] (by decide) b i h hb h0 h1
    have f1' : spec_l1Str.f b i h _ = some (y, i1, e1) := f1
    have hy : y.size ≤ 9 := (by decide : ∀ x ∈ _, x.size ≤ 9) y p1
    obtain ⟨z, i2, e2, f2, p2, a2, b2⟩ := l1Str_dr [(⟨#[]⟩ : ByteArray), (⟨#[48]⟩ : ByteArray), (⟨#[105, 110, 102, 105, 110, 105, 116, 121]⟩ : ByteArray), (⟨#[97, 32, 98]⟩ : ByteArray), (⟨#[34, 118, 49, 34]⟩ : ByteArray), (⟨#[40, 60, 49, 62, 41]⟩ : ByteArray)] (by decide) b i1 e1 hb a1 b1
    have f2' : spec_l1Str.f b i1 e1 _ = some (z, i2, e2) := f2
    have hz : z.size ≤ 9 := (by decide : ∀ x ∈ _, x.size ≤ 9) z p2
    obtain ⟨hx2, hl2⟩ := HdP_snoc (x := ⟨y, z⟩) hx hl (by omega) (by show y.size ≤ 100; omega) (by show z.size ≤ 100; omega)
    obtain ⟨l, i3, e3, f3, p3, q3, a3, b3⟩ := l3DrawHeads_l0 n (x ++ [⟨y, z⟩]) b i2 e2 (by omega) hx2 (by omega) hb a2 b2
    refine ⟨l, i3, e3, ?_, p3, q3, a3, b3⟩
    apply ev_succ
    have hw : wrap64 (((n + 1 : Nat) : Int) - 1) = (n : Int) := by rw [wrap_id (by omega) (by omega)]; omega
    simp only [spec_l3DrawHeads.l0, if_pos (show ((n + 1 : Nat) : Int) > 0 by omega), f1', f2', Option.bind_some, if_pos (show x.length < 4398046511104 by omega), hw]
    exact f3
theorem l3DrawHeads_dr (b : List Int) (i h : Int) (hb : b.length ≤ 1048576) (h0 : 0 ≤ i) (h1 : i ≤ b.length) : ∃ l i' h', Ev (fun k => spec_l3DrawHeads.f k b i h) (l, i', h') ∧ HdP l ∧ l.length ≤ 9 ∧ 0 ≤ i' ∧ i' ≤ b.length := by
  obtain ⟨x, i1, e1, f1, p1, a1, b1⟩ := l1Below_dr 3 b i h hb h0 h1
  have f1' : spec_l1Below.f b i h 3 = some (x, i1, e1) := f1
  have hx := p1.2 (by omega)
  have hx0 := p1.1
  obtain ⟨n, rfl⟩ : ∃ n : Nat, x = (n : Int) := ⟨x.toNat, by omega⟩
  obtain ⟨l, i2, e2, f2, p2⟩ := l3DrawHeads_l0 n [] b i1 e1 (by omega) ⟨by simp, by simp⟩ (by simp) hb a1 b1
  refine ⟨l, i2, e2, ?_, p2⟩
  unfold spec_l3DrawHeads.f
  simp only [f1', Option.bind_some]
  exact f2

theorem l1Once_dr (n : Int) : Dr (fun b i h => spec_l1Once.f b i h n) (fun _ => True) := by
  intro b i h hb h0 h1
  obtain ⟨x, i1, e1, f1, p1, a1, b1⟩ := l1Below_dr n b i h hb h0 h1
  have f1' : spec_l1Below.f b i h n = some (x, i1, e1) := f1
  show ∃ x i' h', spec_l1Once.f b i h n = some (x, i', h') ∧ _
  unfold spec_l1Once.f
  rw [f1']
  exact ⟨_, _, _, rfl, trivial, a1, b1⟩

def RqP (m p : ByteArray) (l : List S88) (b : ByteArray) : Prop := m.size ≤ 100 ∧ p.size ≤ 100 ∧ HdP l ∧ b.size ≤ 1000
theorem l3Draw_dr (b : List Int) (i h : Int) (hb : b.length ≤ 1048576) (h0 : 0 ≤ i) (h1 : i ≤ b.length) : ∃ m p l y i' h', Ev (fun k => spec_l3Draw.f k b i h) (m, p, l, y, i', h') ∧ RqP m p l y ∧ l.length ≤ 9 ∧ 0 ≤ i' ∧ i' ≤ b.length := by
  obtain ⟨m, i1, e1, f1, p1, a1, b1⟩ := l1Str_dr [(⟨#[71, 69, 84]⟩ : ByteArray), (⟨#[80, 85, 84]⟩ : ByteArray), (⟨#[77, 75, 67, 79, 76]⟩ : ByteArray), (⟨#[68, 69, 76, 69, 84, 69]⟩ : ByteArray), (⟨#[67, 79, 80, 89]⟩ : ByteArray)] (by decide) b i h hb h0 h1
  have f1' : spec_l1Str.f b i h _ = some (m, i1, e1) := f1
  have hm : m.size ≤ 9 := (by decide : ∀ x ∈ _, x.size ≤ 9) m p1
  obtain ⟨p, i2, e2, f2, p2, a2, b2⟩ := l1Str_dr [(⟨#[47]⟩ : ByteArray), (⟨#[47, 97]⟩ : ByteArray), (⟨#[47, 97, 47, 98]⟩ : ByteArray), (⟨#[47, 97, 37, 50, 48, 98]⟩ : ByteArray), (⟨#[120]⟩ : ByteArray)] (by decide) b i1 e1 hb a1 b1
  have f2' : spec_l1Str.f b i1 e1 _ = some (p, i2, e2) := f2
  have hp : p.size ≤ 9 := (by decide : ∀ x ∈ _, x.size ≤ 9) p p2
  obtain ⟨l, i3, e3, f3, p3, q3, a3, b3⟩ := l3DrawHeads_dr b i2 e2 hb a2 b2
  obtain ⟨y, i4, e4, f4, p4, a4, b4⟩ := l1Str_dr [(⟨#[]⟩ : ByteArray), (⟨#[]⟩ : ByteArray), (⟨#[97]⟩ : ByteArray), (⟨#[104, 101, 108, 108, 111]⟩ : ByteArray), (⟨#[60, 97, 47, 62]⟩ : ByteArray), (⟨#[13, 10, 13, 10]⟩ : ByteArray), (⟨#[120, 0, 255]⟩ : ByteArray)] (by decide) b i3 e3 hb a3 b3
  have f4' : spec_l1Str.f b i3 e3 _ = some (y, i4, e4) := f4
  have hy : y.size ≤ 9 := (by decide : ∀ x ∈ _, x.size ≤ 9) y p4
  have f4b : spec_l3Body.f b i3 e3 = some (y, i4, e4) := by unfold spec_l3Body.f; rw [f4']; rfl
  refine ⟨m, p, l, y, i4, e4, ?_, ⟨by omega, by omega, p3, by omega⟩, q3, a4, b4⟩
  unfold spec_l3Draw.f
  simp only [f1', f2', Option.bind_some]
  refine Ev.bind f3 ?_
  simp only [f4b, Option.bind_some]
  exact Ev.now _

def reqLine (m p : ByteArray) (l : List S88) (more : ByteArray) : ByteArray := ((((((m ++ (⟨#[32]⟩ : ByteArray)) ++ p) ++ (⟨#[32, 72, 84, 84, 80, 47, 49, 46, 49]⟩ : ByteArray)) ++ (⟨#[13, 10]⟩ : ByteArray)) ++ headText l) ++ more) ++ (⟨#[13, 10]⟩ : ByteArray)
noncomputable def putV (m p : ByteArray) (l : List S88) (b more : ByteArray) (body : List Int) : List Int := if reqOk m p l b = true then (if ((reqLine m p l more).size : Int) > 400 then [] else bytesOf (reqLine m p l more) ++ body) else []
theorem sz1a : (⟨#[32]⟩ : ByteArray).size = 1 := rfl
theorem sz9a : (⟨#[32, 72, 84, 84, 80, 47, 49, 46, 49]⟩ : ByteArray).size = 9 := rfl
theorem spec_l3Put_ev (m p : ByteArray) (l : List S88) (b more body : ByteArray) (hm : m.size ≤ 1048576) (hp : p.size ≤ 1048576) (hl : l.length ≤ 1048576) (hs : ∀ x ∈ l, x.f0.size ≤ 1048576 ∧ x.f1.size ≤ 1048576) (hmo : more.size ≤ 1048576) (hb : body.size ≤ 1000000000) : Ev (fun k => spec_l3Put.f k m p l b more body) (putV m p l b more (bytesOf body)) := by
  have hh := headText_size l hl hs
  unfold spec_l3Put.f putV
  refine ev_ite (fun _ => ?_) (fun q => absurd (by omega) q)
  refine ev_ite (fun _ => ?_) (fun q => absurd (by simp only [ByteArray.size_append, sz1a]; omega) q)
  refine ev_ite (fun _ => ?_) (fun q => absurd (by simp only [ByteArray.size_append, sz1a]; omega) q)
  refine ev_ite (fun _ => ?_) (fun q => absurd (by simp only [ByteArray.size_append, sz1a, sz9a]; omega) q)
  refine Ev.bind (spec_l3HeadsText_ev l hl hs) ?_
  refine ev_ite (fun _ => ?_) (fun q => absurd (by simp only [ByteArray.size_append, sz1a, sz9a, sz2c]; omega) q)
  refine ev_ite (fun _ => ?_) (fun q => absurd (by simp only [ByteArray.size_append, sz1a, sz9a, sz2c]; omega) q)
  refine ev_ite (fun _ => ?_) (fun q => absurd (by simp only [ByteArray.size_append, sz1a, sz9a, sz2c]; omega) q)
  refine Ev.bind (spec_ReqOk_ev m p l b hm hp (by omega) hs) (ev_iteB (fun q => ?_) (fun q => ?_))
  · rw [if_pos q]
    refine ev_ite (fun q1 => ?_) (fun q1 => ?_)
    · rw [if_pos (show ((reqLine m p l more).size : Int) > 400 from q1)]; exact Ev.now _
    · rw [if_neg (show ¬ ((reqLine m p l more).size : Int) > 400 from q1)]
      refine ev_ite (fun _ => ?_) (fun q => absurd (by simp only [ByteArray.size_append, sz1a, sz9a, sz2c]; omega) q)
      refine ev_ite (fun _ => ?_) (fun q => absurd (by simp only [ByteArray.size_append, sz1a, sz9a, sz2c]; omega) q)
      rw [bytesOf_append]
      exact Ev.now _
  · rw [if_neg (by rw [q]; simp)]; exact Ev.now _
theorem putV_len (m p : ByteArray) (l : List S88) (b more : ByteArray) (body : List Int) : (putV m p l b more body).length ≤ 400 + body.length := by
  unfold putV
  split
  · split
    · simp
    · rename_i h
      rw [List.length_append, ← size_len]; omega
  · simp

noncomputable def putReqV (m p : ByteArray) (l : List S88) (b : ByteArray) : List Int := putV m p l b (if bytesOf b = [] then (⟨#[]⟩ : ByteArray) else lenText b) (bytesOf b)
theorem spec_PutReq_ev (m p : ByteArray) (l : List S88) (b : ByteArray) (hm : m.size ≤ 1048576) (hp : p.size ≤ 1048576) (hl : l.length ≤ 1048576) (hs : ∀ x ∈ l, x.f0.size ≤ 1048576 ∧ x.f1.size ≤ 1048576) (hb : b.size ≤ 1048576) : Ev (fun k => spec_PutReq.f k m p l b) (putReqV m p l b) := by
  unfold spec_PutReq.f putReqV
  refine ev_ite (fun q => ?_) (fun q => ?_)
  · have q' : bytesOf b = [] := (lit_iff b []).1 q
    rw [if_pos q', q']
    exact Ev.bind (spec_l3Put_ev m p l b (⟨#[]⟩ : ByteArray) (⟨#[]⟩ : ByteArray) hm hp hl hs (by decide) (by decide)) (Ev.now _)
  · have q' : ¬ bytesOf b = [] := fun h => q ((lit_iff b []).2 h)
    have hn := num_size b.size hb
    rw [if_neg q']
    have e := spec_NumText_ev (b.size : Int) (by omega)
    rw [Int.toNat_natCast] at e
    refine Ev.bind e ?_
    refine ev_ite (fun _ => ?_) (fun q => absurd (by omega) q)
    refine ev_ite (fun _ => ?_) (fun q => absurd (by simp only [ByteArray.size_append, sz16]; omega) q)
    exact Ev.bind (spec_l3Put_ev m p l b (lenText b) b hm hp hl hs (by unfold lenText; simp only [ByteArray.size_append, sz16, sz2c]; omega) (by omega)) (Ev.now _)
/-- a digit to the base 16, and a number's digits -/
def hexDg (d : Nat) : Int := if d < 10 then 48 + (d : Int) else 87 + (d : Int)
def hexN (u : Nat) : List Int := if h : u < 16 then [hexDg u] else hexN (u / 16) ++ [hexDg (u % 16)]
theorem hexN_step (u : Nat) (h : 15 < u) : hexN u = hexN (u / 16) ++ [hexDg (u % 16)] := by rw [hexN, dif_neg (by omega)]
theorem hexN_low (u : Nat) (h : u ≤ 15) : hexN u = [hexDg u] := by rw [hexN, dif_pos (by omega)]
theorem hexDg_range (d : Nat) (h : d < 16) : 48 ≤ hexDg d ∧ hexDg d ≤ 102 := by unfold hexDg; split <;> omega
theorem hexN_range (u : Nat) : ∀ x ∈ hexN u, 0 ≤ x ∧ x < 256 := by
  induction u using Nat.strongRecOn with
  | _ u ih =>
    intro x h
    rcases Nat.lt_or_ge 15 u with h9 | h9
    · rw [hexN_step u h9, List.mem_append] at h
      rcases h with h | h
      · exact ih (u / 16) (by omega) x h
      · simp only [List.mem_cons, List.not_mem_nil, or_false] at h
        have := hexDg_range (u % 16) (Nat.mod_lt _ (by decide)); omega
    · rw [hexN_low u h9] at h
      simp only [List.mem_cons, List.not_mem_nil, or_false] at h
      have := hexDg_range u (by omega); omega
theorem tdiv_16 (u : Nat) (hu : u ≤ 9223372036854775807) : wrap64 (Int.tdiv (u : Int) 16) = ((u / 16 : Nat) : Int) := by
  rw [Int.tdiv_eq_ediv_of_nonneg (by omega), wrap_id (by omega) (by omega)]
  omega
theorem tmod_16 (u : Nat) (hu : u ≤ 9223372036854775807) : Int.tmod (u : Int) 16 = ((u % 16 : Nat) : Int) := by
  rw [Int.tmod_eq_emod_of_nonneg (by omega)]; omega

theorem hexN_len : ∀ (k u : Nat), u < 16 ^ (k + 1) → (hexN u).length ≤ k + 1
  | 0, u, h => by rw [hexN_low u (by simpa using Nat.le_of_lt_succ h)]; simp
  | k + 1, u, h => by
    rcases Nat.lt_or_ge 15 u with h9 | h9
    · rw [hexN_step u h9, List.length_append]
      have := hexN_len k (u / 16) (by rw [Nat.pow_succ] at h; omega)
      simp; omega
    · rw [hexN_low u h9]; simp

theorem hexDig_eq (d : Nat) (h : d < 16) : spec_l1HexDigit.f ((d : Nat) : Int) = some (hexDg d) := by
  unfold spec_l1HexDigit.f hexDg
  by_cases h9 : d < 10
  · rw [if_pos (by omega), if_pos h9, wrap_id (by omega) (by omega)]; congr 1; omega
  · rw [if_neg (by omega), if_neg h9, wrap_id (x := 97 + (d : Int)) (by omega) (by omega), wrap_id (by omega) (by omega)]; congr 1; omega
theorem spec_Hex_l0 : ∀ (n u : Nat) (x : ByteArray), u < 16 ^ (n + 1) → u ≤ 9223372036854775807 → x.size ≤ 1000 - n → n ≤ 20 → bytesOf x = (hexN u).drop ((hexN u).length - 1) ++ (bytesOf x).drop 1 → Ev (fun k => spec_Hex.l0 k (u : Int) x) (strOfNums (hexN u ++ (bytesOf x).drop 1))
  | 0, u, x, h, hu, hx, hn, hb => by
    have h9 : u ≤ 15 := by omega
    apply ev_succ
    simp only [spec_Hex.l0, if_neg (show ¬ (u : Int) > 15 by omega)]
    rw [hexN_low u h9] at hb ⊢
    simp only [List.length_cons, List.length_nil, List.drop_zero, Nat.zero_add, Nat.sub_self] at hb
    rw [← hb, strOfNums_bytesOf]
    exact Ev.now _
  | n + 1, u, x, h, hu, hx, hn, hb => by
    apply ev_succ
    rcases Nat.lt_or_ge 15 u with h9 | h9
    · have hd := hexDg_range (u / 16 % 16) (Nat.mod_lt _ (by decide))
      have hy : bytesOf (strOfNums [hexDg (u / 16 % 16)]) = [hexDg (u / 16 % 16)] := bytesOf_strOfNums _ (by intro z hz; simp at hz; omega)
      have hs1 : (strOfNums [hexDg (u / 16 % 16)]).size = 1 := by rw [size_len, hy]; rfl
      simp only [spec_Hex.l0, if_pos (show (u : Int) > 15 by omega), tdiv_16 u hu, tmod_16 (u / 16) (by omega), hexDig_eq _ (Nat.mod_lt _ (by decide : 0 < 16)), Option.bind_some, hs1, if_pos (show 1 + x.size ≤ 9223372036854775807 by omega)]
      have e : bytesOf (strOfNums [hexDg (u / 16 % 16)] ++ x) = hexDg (u / 16 % 16) :: bytesOf x := by rw [bytesOf_append, hy]; rfl
      have ih := spec_Hex_l0 n (u / 16) (strOfNums [hexDg (u / 16 % 16)] ++ x) (by rw [Nat.pow_succ] at h; omega) (by omega) (by rw [ByteArray.size_append, hs1]; omega) (by omega) (by
        rw [e]
        simp only [List.drop_succ_cons, List.drop_zero]
        rcases Nat.lt_or_ge 15 (u / 16) with h10 | h10
        · rw [hexN_step (u / 16) h10]
          simp
        · rw [hexN_low (u / 16) h10, Nat.mod_eq_of_lt (by omega)]
          simp)
      rw [e] at ih
      simp only [List.drop_succ_cons, List.drop_zero] at ih
      rw [hexN_step u h9] at hb ⊢
      simp only [List.length_append, List.length_cons, List.length_nil, Nat.zero_add, Nat.add_sub_cancel, List.drop_left] at hb
      rw [List.append_assoc, ← hb]
      exact ih
    · simp only [spec_Hex.l0, if_neg (show ¬ (u : Int) > 15 by omega)]
      rw [hexN_low u h9] at hb ⊢
      simp only [List.length_cons, List.length_nil, List.drop_zero, Nat.zero_add, Nat.sub_self] at hb
      rw [← hb, strOfNums_bytesOf]
      exact Ev.now _
theorem spec_Hex_j0 (u : Nat) (hu : u ≤ 9223372036854775807) : Ev (fun k => spec_Hex.j0 k (u : Int)) (strOfNums (hexN u)) := by
  apply ev_succ
  simp only [spec_Hex.j0, tmod_16 u hu, hexDig_eq _ (Nat.mod_lt _ (by decide : 0 < 16)), Option.bind_some]
  have hd := hexDg_range (u % 16) (Nat.mod_lt _ (by decide))
  have hy : bytesOf (strOfNums [hexDg (u % 16)]) = [hexDg (u % 16)] := bytesOf_strOfNums _ (by intro z hz; simp at hz; omega)
  have hs1 : (strOfNums [hexDg (u % 16)]).size = 1 := by rw [size_len, hy]; rfl
  have := spec_Hex_l0 18 u (strOfNums [hexDg (u % 16)]) (by omega) hu (by omega) (by omega) (by
    rw [hy]
    rcases Nat.lt_or_ge 15 u with h9 | h9
    · rw [hexN_step u h9]; simp
    · rw [hexN_low u h9, Nat.mod_eq_of_lt (by omega)]; simp)
  rw [hy] at this
  simpa using this
theorem spec_Hex_ev (n : Int) (hn : n ≤ 9223372036854775807) : Ev (fun k => spec_Hex.f k n) (strOfNums (hexN n.toNat)) := by
  unfold spec_Hex.f
  refine ev_ite (fun h => ?_) (fun h => ?_)
  · rw [show n.toNat = 0 from by omega]
    exact spec_Hex_j0 0 (by omega)
  · have := spec_Hex_j0 n.toNat (by omega)
    rwa [Int.toNat_of_nonneg (by omega)] at this
/-- a piece of a body as it is written, and all of them -/
def pieceL (b : List Int) : List Int := if b = [] then [] else hexN b.length ++ [13, 10] ++ b ++ [13, 10]
def chunkL : List Int → List Int → List Int
  | b, [] => pieceL b ++ [48, 13, 10, 13, 10]
  | b, n :: r => if n < 1 then chunkL b r else pieceL (b.take n.toNat) ++ chunkL (b.drop n.toNat) r
theorem rd_drop' {l : List Int} {p : Nat} {a : Int} {t : List Int} (h : l.drop p = a :: t) : rd l (p : Int) = a ∧ p < l.length ∧ l.drop (p + 1) = t := by
  have hp : p < l.length := by
    rcases Nat.lt_or_ge p l.length with h' | h'
    · exact h'
    · rw [List.drop_eq_nil_of_le h'] at h; cases h
  rw [List.drop_eq_getElem_cons hp] at h
  obtain ⟨h1, h2⟩ := List.cons.inj h
  refine ⟨?_, hp, h2⟩
  rw [rd, Int.toNat_natCast, List.getD_eq_getElem?_getD, List.getElem?_eq_getElem hp, Option.getD_some, h1]
theorem crlf_bytes : bytesOf (⟨#[13, 10]⟩ : ByteArray) = [13, 10] := rfl
theorem zero_bytes : bytesOf (⟨#[48]⟩ : ByteArray) = [48] := rfl
theorem pieceL_len (b : List Int) (hb : b.length ≤ 1048576) : (pieceL b).length ≤ b.length + 20 := by
  unfold pieceL
  split
  · simp
  · have := hexN_len 5 b.length (by omega)
    simp only [List.length_append, List.length_cons, List.length_nil]
    omega
theorem empty_iff (s : ByteArray) : s.toList = ([] : List UInt8) ↔ bytesOf s = [] := lit_iff s []
theorem bytesOf_take (s : ByteArray) (j : Nat) : bytesOf (s.extract 0 j) = (bytesOf s).take j := by rw [bytesOf_extract, List.drop_zero]
theorem bytesOf_dropS (s : ByteArray) (j : Nat) : bytesOf (s.extract j s.size) = (bytesOf s).drop j := by
  rw [bytesOf_extract, List.take_of_length_le (by rw [bytesOf_length]; exact Nat.le_refl _)]
theorem strHex_bytes (u : Nat) : bytesOf (strOfNums (hexN u)) = hexN u := bytesOf_strOfNums _ (hexN_range u)
theorem strHex_size (u : Nat) : (strOfNums (hexN u)).size = (hexN u).length := by rw [size_len, strHex_bytes]
theorem spec_l4Piece_ev (b : ByteArray) (hb : b.size ≤ 1048576) : ∃ t, Ev (fun k => spec_l4Piece.f k b) t ∧ bytesOf t = pieceL (bytesOf b) := by
  unfold spec_l4Piece.f
  by_cases q : b.toList = ([] : List UInt8)
  · refine ⟨⟨#[]⟩, ?_, ?_⟩
    · simp only [if_pos q]; exact Ev.now _
    · rw [(empty_iff b).1 q]; rfl
  · have hl := bytesOf_length b
    have h6 := hexN_len 5 b.size (by omega)
    have hs := strHex_size b.size
    have c2 : (⟨#[13, 10]⟩ : ByteArray).size = 2 := rfl
    refine ⟨((strOfNums (hexN b.size) ++ (⟨#[13, 10]⟩ : ByteArray)) ++ b) ++ (⟨#[13, 10]⟩ : ByteArray), ?_, ?_⟩
    · simp only [if_neg q]
      have h := spec_Hex_ev (b.size : Int) (by omega)
      rw [Int.toNat_natCast] at h
      refine Ev.bind h ?_
      simp only [ByteArray.size_append, c2]
      rw [if_pos (by omega), if_pos (by omega), if_pos (by omega)]
      exact Ev.now _
    · rw [bytesOf_append, bytesOf_append, bytesOf_append, strHex_bytes, crlf_bytes]
      unfold pieceL
      rw [if_neg (fun e => q ((empty_iff b).2 e)), hl]
theorem spec_l4Text_l0 (x1 : List Int) (h1 : x1.length ≤ 1048576) : ∀ (n i : Nat) (b s : ByteArray), x1.length - i = n → i ≤ x1.length → s.size + b.size ≤ 20 * i + 1048576 → b.size ≤ 1048576 →
    ∃ t, Ev (fun k => spec_l4Text.l0 k b x1 s (i : Int)) t ∧ bytesOf t = bytesOf s ++ chunkL (bytesOf b) (x1.drop i) ∧ t.size ≤ 100000000
  | 0, i, b, s, hn, hi, hs, hb => by
    obtain ⟨p, hp, hp1⟩ := spec_l4Piece_ev b hb
    have hl := bytesOf_length b
    have hp2 := pieceL_len (bytesOf b) (by omega)
    have hp3 : p.size ≤ b.size + 20 := by rw [size_len, hp1]; omega
    have c1 : (⟨#[48]⟩ : ByteArray).size = 1 := rfl
    have c2 : (⟨#[13, 10]⟩ : ByteArray).size = 2 := rfl
    refine ⟨(((s ++ p) ++ (⟨#[48]⟩ : ByteArray)) ++ (⟨#[13, 10]⟩ : ByteArray)) ++ (⟨#[13, 10]⟩ : ByteArray), ?_, ?_, ?_⟩
    · apply ev_succ
      simp only [spec_l4Text.l0, if_neg (show ¬ (i : Int) < x1.length by omega)]
      refine Ev.bind hp ?_
      simp only [ByteArray.size_append, c1, c2]
      rw [if_pos (by omega), if_pos (by omega), if_pos (by omega), if_pos (by omega)]
      exact Ev.now _
    · rw [List.drop_eq_nil_of_le (by omega)]
      simp only [bytesOf_append, hp1, crlf_bytes, zero_bytes, chunkL, List.append_assoc, List.cons_append, List.nil_append]
    · simp only [ByteArray.size_append, c1, c2]; omega
  | n + 1, i, b, s, hn, hi, hs, hb => by
    have hil : i < x1.length := by omega
    obtain ⟨hr, _, _⟩ := rd_drop' (List.drop_eq_getElem_cons hil)
    have hw : wrap64 ((i : Int) + 1) = ((i + 1 : Nat) : Int) := by rw [wrap_id (by omega) (by omega)]; omega
    have hl := bytesOf_length b
    rw [List.drop_eq_getElem_cons hil]
    generalize x1[i] = m at hr
    by_cases q : m < 1
    · obtain ⟨t, h2, h3⟩ := spec_l4Text_l0 x1 h1 n (i + 1) b s (by omega) (by omega) (by omega) hb
      refine ⟨t, ?_, by simpa only [chunkL, if_pos q] using h3⟩
      apply ev_succ
      simp only [spec_l4Text.l0, if_pos (show (i : Int) < x1.length by omega), if_pos (show (0 : Int) ≤ (i : Int) by omega), hr, if_pos q, hw]
      exact h2
    · simp only [chunkL, if_neg q]
      have key : ∀ j : Nat, (bytesOf b).take j = (bytesOf b).take m.toNat → (bytesOf b).drop j = (bytesOf b).drop m.toNat → ∃ t, Ev (fun k => (spec_l4Piece.f k (b.extract 0 j)).bind fun t112 => (if s.size + t112.size ≤ 9223372036854775807 then (spec_l4Text.l0 k (b.extract j b.size) x1 (s ++ t112) (wrap64 ((i : Int) + 1))) else (none))) t ∧ bytesOf t = bytesOf s ++ (pieceL ((bytesOf b).take m.toNat) ++ chunkL ((bytesOf b).drop m.toNat) (x1.drop (i + 1))) ∧ t.size ≤ 100000000 := by
        intro j e1 e2
        have ht : (b.extract 0 j).size ≤ b.size := by rw [size_len, bytesOf_take, List.length_take]; omega
        have hd : (b.extract j b.size).size + (b.extract 0 j).size = b.size := by
          have e3 := bytesOf_length (b.extract 0 j)
          have e4 := bytesOf_length (b.extract j b.size)
          rw [bytesOf_take, List.length_take] at e3
          rw [bytesOf_dropS, List.length_drop] at e4
          omega
        obtain ⟨p, hp, hp1⟩ := spec_l4Piece_ev (b.extract 0 j) (by omega)
        have hlt := bytesOf_length (b.extract 0 j)
        have hp2 := pieceL_len (bytesOf (b.extract 0 j)) (by omega)
        have hp3 : p.size ≤ (b.extract 0 j).size + 20 := by rw [size_len, hp1]; omega
        obtain ⟨t, h2, h3, h4⟩ := spec_l4Text_l0 x1 h1 n (i + 1) (b.extract j b.size) (s ++ p) (by omega) (by omega) (by rw [ByteArray.size_append]; omega) (by omega)
        refine ⟨t, Ev.bind hp ?_, ?_, h4⟩
        · simp only [if_pos (show s.size + p.size ≤ 9223372036854775807 by omega), hw]; exact h2
        · rw [h3, bytesOf_append, hp1, bytesOf_take, bytesOf_dropS, e1, e2, List.append_assoc]
      by_cases q1 : m > (b.size : Int)
      · obtain ⟨t, h2, h3⟩ := key b.size (by rw [List.take_of_length_le (by omega), List.take_of_length_le (by omega)]) (by rw [List.drop_eq_nil_of_le (by omega), List.drop_eq_nil_of_le (by omega)])
        refine ⟨t, ?_, h3⟩
        apply ev_succ
        simp only [spec_l4Text.l0, if_pos (show (i : Int) < x1.length by omega), if_pos (show (0 : Int) ≤ (i : Int) by omega), hr, if_neg q, if_pos q1, if_pos (show (0 : Int) ≤ (b.size : Int) by omega), Int.le_refl, if_true]
        exact h2
      · obtain ⟨t, h2, h3⟩ := key m.toNat rfl rfl
        refine ⟨t, ?_, h3⟩
        apply ev_succ
        simp only [spec_l4Text.l0, if_pos (show (i : Int) < x1.length by omega), if_pos (show (0 : Int) ≤ (i : Int) by omega), hr, if_neg q, if_neg q1, if_pos (show (0 : Int) ≤ m by omega), if_pos (show m ≤ (b.size : Int) by omega)]
        exact h2
theorem spec_l4Text_ev (b : ByteArray) (x1 : List Int) (hb : b.size ≤ 1048576) (h1 : x1.length ≤ 1048576) : ∃ t, Ev (fun k => spec_l4Text.f k b x1) t ∧ bytesOf t = chunkL (bytesOf b) x1 ∧ t.size ≤ 100000000 := by
  have := spec_l4Text_l0 x1 h1 x1.length 0 b ⟨#[]⟩ rfl (by omega) (by have c0 : (⟨#[]⟩ : ByteArray).size = 0 := rfl; omega) hb
  exact this

def TEl : ByteArray := ⟨#[116, 114, 97, 110, 115, 102, 101, 114, 45, 101, 110, 99, 111, 100, 105, 110, 103, 58, 32, 99, 104, 117, 110, 107, 101, 100, 13, 10]⟩
theorem spec_PutChunked_ev (m p : ByteArray) (l : List S88) (b : ByteArray) (s : List Int) (hm : m.size ≤ 1048576) (hp : p.size ≤ 1048576) (hl : l.length ≤ 1048576) (hz : ∀ x ∈ l, x.f0.size ≤ 1048576 ∧ x.f1.size ≤ 1048576) (hb : b.size ≤ 1048576) (hs : s.length ≤ 1048576) : Ev (fun k => spec_PutChunked.f k m p l b s) (putV m p l b TEl (chunkL (bytesOf b) s)) := by
  obtain ⟨t, ht, ht1, ht2⟩ := spec_l4Text_ev b s hb hs
  unfold spec_PutChunked.f
  rw [← ht1]
  exact Ev.bind ht (Ev.bind (spec_l3Put_ev m p l b TEl t hm hp hl hz (by decide) (by omega)) (Ev.now _))
def BtP (n : Nat) (l : List Int) : Prop := l.length ≤ n ∧ ∀ x ∈ l, 0 ≤ x ∧ x < 256
theorem pieceL_range (b : List Int) (h : ∀ x ∈ b, 0 ≤ x ∧ x < 256) : ∀ x ∈ pieceL b, 0 ≤ x ∧ x < 256 := by
  intro x hx
  unfold pieceL at hx
  split at hx
  · exact absurd hx (by simp)
  · simp only [List.mem_append] at hx
    rcases hx with ((hx | hx) | hx) | hx
    · exact hexN_range _ x hx
    · simp at hx; omega
    · exact h x hx
    · simp at hx; omega
theorem chunkL_B : ∀ (s b : List Int), b.length ≤ 1048576 → (∀ x ∈ b, 0 ≤ x ∧ x < 256) → (chunkL b s).length ≤ b.length + 20 * s.length + 25 ∧ ∀ x ∈ chunkL b s, 0 ≤ x ∧ x < 256
  | [], b, hb, hr => by
    have := pieceL_len b hb
    rw [chunkL]
    refine ⟨by simp only [List.length_append, List.length_cons, List.length_nil]; omega, fun x hx => ?_⟩
    rcases List.mem_append.1 hx with h | h
    · exact pieceL_range b hr x h
    · simp at h; omega
  | n :: r, b, hb, hr => by
    rw [chunkL]
    split
    · have := chunkL_B r b hb hr
      exact ⟨by rw [List.length_cons]; omega, this.2⟩
    · have hd : (b.take n.toNat).length + (b.drop n.toNat).length = b.length := by rw [← List.length_append, List.take_append_drop]
      have h1 := chunkL_B r (b.drop n.toNat) (by omega) (fun x hx => hr x (List.mem_of_mem_drop hx))
      have h2 := pieceL_len (b.take n.toNat) (by omega)
      refine ⟨by rw [List.length_append, List.length_cons]; omega, fun x hx => ?_⟩
      rcases List.mem_append.1 hx with h | h
      · exact pieceL_range _ (fun y hy => hr y (List.mem_of_mem_take hy)) x h
      · exact h1.2 x h
theorem putV_B (m p : ByteArray) (l : List S88) (b more : ByteArray) (body : List Int) (n : Nat) (h : BtP n body) : BtP (400 + n) (putV m p l b more body) := by
  refine ⟨by have := putV_len m p l b more body; have := h.1; omega, ?_⟩
  unfold putV
  split
  · split
    · simp
    · intro x hx
      rcases List.mem_append.1 hx with hx | hx
      · exact bytesOf_range _ x hx
      · exact h.2 x hx
  · simp
theorem bytesOf_B (s : ByteArray) (n : Nat) (h : s.size ≤ n) : BtP n (bytesOf s) := ⟨by rw [bytesOf_length]; exact h, bytesOf_range s⟩
theorem BtP.mono {n m : Nat} {l : List Int} (h : BtP n l) (hm : n ≤ m) : BtP m l := ⟨Nat.le_trans h.1 hm, h.2⟩
theorem RqP_s {m p : ByteArray} {l : List S88} {b : ByteArray} (h : RqP m p l b) : m.size ≤ 1048576 ∧ p.size ≤ 1048576 ∧ l.length ≤ 1048576 ∧ (∀ x ∈ l, x.f0.size ≤ 1048576 ∧ x.f1.size ≤ 1048576) ∧ b.size ≤ 1048576 :=
  ⟨by have := h.1; omega, by have := h.2.1; omega, by have := h.2.2.1.1; omega, fun x hx => by have := h.2.2.1.2 x hx; omega, by have := h.2.2.2; omega⟩
theorem l3Bytes_j0 (t : List Int) (ht : BtP 3000 t) (b : List Int) (i h : Int) (hb : b.length ≤ 1048576) (h0 : 0 ≤ i) (h1 : i ≤ b.length) : ∃ l i' h', Ev (fun k => spec_l3Bytes.j0 k t b i h) (l, i', h') ∧ BtP 4000 l ∧ 0 ≤ i' ∧ i' ≤ b.length := by
  obtain ⟨tl, tr⟩ := ht
  obtain ⟨v, i1, e1, f1, p1, a1, b1⟩ := l1Below_dr 8 b i h hb h0 h1
  have f1' : spec_l1Below.f b i h 8 = some (v, i1, e1) := f1
  obtain ⟨z, i3, e3, f3, p3, a3, b3⟩ := l1Below_dr ((t.length : Int) + 1) b i1 e1 hb a1 b1
  have f3' : spec_l1Below.f b i1 e1 ((t.length : Int) + 1) = some (z, i3, e3) := f3
  have hw : wrap64 ((t.length : Int) + 1) = (t.length : Int) + 1 := wrap_id (by omega) (by omega)
  have hz := p3.2 (by omega)
  have hz0 := p3.1
  by_cases c0 : v = 0
  · obtain ⟨s, i2, e2, f2, p2, a2, b2⟩ := l1Str_dr [(⟨#[71, 69, 84, 32, 47, 32, 72, 84, 84, 80, 47, 49, 46, 49, 13, 10, 13, 10]⟩ : ByteArray), (⟨#[71, 69, 84, 32, 47, 32, 72, 84, 84, 80, 47, 49, 46, 48, 13, 10, 13, 10]⟩ : ByteArray), (⟨#[71, 69, 84, 32, 47, 13, 10, 13, 10]⟩ : ByteArray), (⟨#[80, 85, 84, 32, 47, 32, 72, 84, 84, 80, 47, 49, 46, 49, 13, 10, 67, 111, 110, 116, 101, 110, 116, 45, 76, 101, 110, 103, 116, 104, 58, 32, 51, 13, 10, 13, 10, 97, 98, 99]⟩ : ByteArray), (⟨#[80, 85, 84, 32, 47, 32, 72, 84, 84, 80, 47, 49, 46, 49, 13, 10, 99, 111, 110, 116, 101, 110, 116, 45, 108, 101, 110, 103, 116, 104, 58, 32, 50, 48, 49, 13, 10, 13, 10]⟩ : ByteArray), (⟨#[80, 85, 84, 32, 47, 32, 72, 84, 84, 80, 47, 49, 46, 49, 13, 10, 99, 111, 110, 116, 101, 110, 116, 45, 108, 101, 110, 103, 116, 104, 58, 32, 49, 13, 10, 99, 111, 110, 116, 101, 110, 116, 45, 108, 101, 110, 103, 116, 104, 58, 32, 49, 13, 10, 13, 10, 97]⟩ : ByteArray), (⟨#[80, 85, 84, 32, 47, 32, 72, 84, 84, 80, 47, 49, 46, 49, 13, 10, 116, 114, 97, 110, 115, 102, 101, 114, 45, 101, 110, 99, 111, 100, 105, 110, 103, 58, 32, 103, 122, 105, 112, 13, 10, 13, 10]⟩ : ByteArray), (⟨#[80, 85, 84, 32, 47, 32, 72, 84, 84, 80, 47, 49, 46, 49, 13, 10, 84, 114, 97, 110, 115, 102, 101, 114, 45, 69, 110, 99, 111, 100, 105, 110, 103, 58, 32, 67, 72, 85, 78, 75, 69, 68, 13, 10, 13, 10, 49, 13, 10, 97, 13, 10, 48, 13, 10, 13, 10]⟩ : ByteArray), (⟨#[65, 32, 47, 32, 72, 84, 84, 80, 47, 49, 46, 49, 13, 10, 120, 13, 10, 13, 10]⟩ : ByteArray), (⟨#[65, 32, 47, 32, 72, 84, 84, 80, 47, 49, 46, 49, 13, 10, 32, 88, 32, 58, 32, 121, 32, 13, 10, 13, 10]⟩ : ByteArray), (⟨#[65, 32, 47, 32, 72, 84, 84, 80, 47, 49, 46, 49, 13, 10, 88, 58, 9, 32, 121, 32, 13, 10, 13, 10]⟩ : ByteArray), (⟨#[13, 10, 13, 10]⟩ : ByteArray), (⟨#[80, 85, 84, 32, 47, 32, 72, 84, 84, 80, 47, 49, 46, 49, 13, 10, 99, 111, 110, 116, 101, 110, 116, 45, 108, 101, 110, 103, 116, 104, 58, 32, 48, 51, 13, 10, 13, 10, 97, 98, 99]⟩ : ByteArray)] (by decide) b i1 e1 hb a1 b1
    have f2' : spec_l1Str.f b i1 e1 _ = some (s, i2, e2) := f2
    have hs : s.size ≤ 99 := (by decide : ∀ x ∈ _, x.size ≤ 99) s p2
    refine ⟨bytesOf s, i2, e2, ?_, bytesOf_B s 4000 (by omega), a2, b2⟩
    apply ev_succ
    simp only [spec_l3Bytes.j0, f1', Option.bind_some, if_pos c0, f2', if_pos (show s.size < 140737488355328 by omega)]
    exact Ev.now _
  by_cases c1 : v = 1
  · obtain ⟨u, i4, e4, f4, p4, a4, b4⟩ := l1Int_dr [0, 13, 10, 32, 58, 65, 255] (by decide) b i3 e3 hb a3 b3
    have f4' : spec_l1Int.f b i3 e3 _ = some (u, i4, e4) := f4
    refine ⟨(([] ++ t.take z.toNat) ++ [u % 256]) ++ t.drop z.toNat, i4, e4, ?_, ⟨?_, ?_⟩, a4, b4⟩
    · apply ev_succ
      simp only [spec_l3Bytes.j0, f1', Option.bind_some, if_neg c0, if_pos c1, hw, f3', if_pos hz0, if_pos (show z ≤ (t.length : Int) by omega), f4']
      rw [if_pos (by simp only [List.length_nil, List.length_take]; omega)]
      (try simp only [Option.bind_some])
      rw [if_pos (by simp only [List.length_nil, List.length_append, List.length_take]; omega)]
      (try simp only [Option.bind_some])
      rw [if_pos (by simp only [List.length_nil, List.length_append, List.length_take, List.length_drop, List.length_cons]; omega)]
      exact Ev.now _
    · simp only [List.length_nil, List.length_append, List.length_take, List.length_drop, List.length_cons]; omega
    · intro x hx
      simp only [List.nil_append, List.mem_append, List.mem_cons, List.not_mem_nil, or_false] at hx
      rcases hx with (hx | hx) | hx
      · exact tr x (List.mem_of_mem_take hx)
      · subst hx; omega
      · exact tr x (List.mem_of_mem_drop hx)
  by_cases c2 : v = 2
  · refine ⟨t.take z.toNat, i3, e3, ?_, ⟨by rw [List.length_take]; omega, fun x hx => tr x (List.mem_of_mem_take hx)⟩, a3, b3⟩
    apply ev_succ
    simp only [spec_l3Bytes.j0, f1', Option.bind_some, if_neg c0, if_neg c1, if_pos c2, hw, f3', if_pos hz0, if_pos (show z ≤ (t.length : Int) by omega)]
    exact Ev.now _
  by_cases c3 : v = 3
  · obtain ⟨o, i4, e4, f4, _, a4, b4⟩ := l1Once_dr 4 b i1 e1 hb a1 b1
    have f4' : spec_l1Once.f b i1 e1 4 = some (o, i4, e4) := f4
    cases o with
    | true =>
      obtain ⟨w, i5, e5, f5, p5, a5, b5⟩ := l1Below_dr 4 b i4 e4 hb a4 b4
      have f5' : spec_l1Below.f b i4 e4 4 = some (w, i5, e5) := f5
      have hw5 := p5.2 (by omega)
      have hw0 := p5.1
      have hw2 : wrap64 (399 + w) = 399 + w := wrap_id (by omega) (by omega)
      refine ⟨List.replicate (399 + w : Int).toNat 0, i5, e5, ?_, ⟨by rw [List.length_replicate]; omega, fun x hx => by rw [List.eq_of_mem_replicate hx]; omega⟩, a5, b5⟩
      apply ev_succ
      simp only [spec_l3Bytes.j0, f1', Option.bind_some, if_neg c0, if_neg c1, if_neg c2, if_pos c3, f4', if_true, f5', hw2, if_pos (show (0 : Int) ≤ 399 + w by omega), if_pos (show (399 + w : Int).toNat ≤ 281474976710656 by omega)]
      exact Ev.now _
    | false =>
      refine ⟨t, i4, e4, ?_, ⟨by omega, tr⟩, a4, b4⟩
      apply ev_succ
      simp only [spec_l3Bytes.j0, f1', Option.bind_some, if_neg c0, if_neg c1, if_neg c2, if_pos c3, f4', Bool.false_eq_true, if_false]
      exact Ev.now _
  · refine ⟨t, i1, e1, ?_, ⟨by omega, tr⟩, a1, b1⟩
    apply ev_succ
    simp only [spec_l3Bytes.j0, f1', Option.bind_some, if_neg c0, if_neg c1, if_neg c2, if_neg c3]
    exact Ev.now _
theorem putReqV_B {m p : ByteArray} {l : List S88} {y : ByteArray} (h : RqP m p l y) : BtP 3000 (putReqV m p l y) := by
  unfold putReqV
  exact (putV_B m p l y _ (bytesOf y) 1000 (bytesOf_B y 1000 h.2.2.2)).mono (by omega)
theorem l3Bytes_dr (b : List Int) (i h : Int) (hb : b.length ≤ 1048576) (h0 : 0 ≤ i) (h1 : i ≤ b.length) : ∃ l i' h', Ev (fun k => spec_l3Bytes.f k b i h) (l, i', h') ∧ BtP 4000 l ∧ 0 ≤ i' ∧ i' ≤ b.length := by
  obtain ⟨m, p, d, y, i1, e1, f1, p1, _, a1, b1⟩ := l3Draw_dr b i h hb h0 h1
  obtain ⟨s1, s2, s3, s4, s5⟩ := RqP_s p1
  have ep := spec_PutReq_ev m p d y s1 s2 s3 s4 s5
  obtain ⟨o, i2, e2, f2, _, a2, b2⟩ := l1Once_dr 3 b i1 e1 hb a1 b1
  have f2' : spec_l1Once.f b i1 e1 3 = some (o, i2, e2) := f2
  unfold spec_l3Bytes.f
  cases o with
  | true =>
    obtain ⟨v, i3, e3, f3, p3, a3, b3⟩ := l1Below_dr 4 b i2 e2 hb a2 b2
    have f3' : spec_l1Below.f b i2 e2 4 = some (v, i3, e3) := f3
    have ec := spec_PutChunked_ev m p d y [v, 1, 2] s1 s2 s3 s4 s5 (by simp)
    have hy := bytesOf_length y
    have hc := chunkL_B [v, 1, 2] (bytesOf y) (by omega) (bytesOf_range y)
    have hy9 := p1.2.2.2
    have hB := (putV_B m p d y TEl (chunkL (bytesOf y) [v, 1, 2]) 2000 ⟨by have := hc.1; simp only [List.length_cons, List.length_nil] at this; omega, hc.2⟩).mono (show 400 + 2000 ≤ 3000 by omega)
    obtain ⟨l, i4, e4, f4, p4⟩ := l3Bytes_j0 _ hB b i3 e3 hb a3 b3
    refine ⟨l, i4, e4, Ev.bind f1 (Ev.bind ep ?_), p4⟩
    simp only [f2', Option.bind_some, if_true, f3']
    exact Ev.bind ec f4
  | false =>
    obtain ⟨l, i4, e4, f4, p4⟩ := l3Bytes_j0 _ (putReqV_B p1) b i2 e2 hb a2 b2
    refine ⟨l, i4, e4, Ev.bind f1 (Ev.bind ep ?_), p4⟩
    simp only [f2', Option.bind_some, Bool.false_eq_true, if_false]
    exact f4
theorem DrawGetReq_ev (l : List Int) (h : Int) (hl : l.length ≤ 1048576) (hn : Ev (fun k => spec_l1New.f k l) (l, (0 : Int), h)) : ∃ g, Ev (fun k => spec_DrawGetReq.f k l) g ∧ BtP 8000 g := by
  obtain ⟨t, i1, e1, f1, p1, a1, b1⟩ := l3Bytes_dr l 0 h hl (by omega) (by omega)
  obtain ⟨o, i2, e2, f2, _, a2, b2⟩ := l1Once_dr 3 l i1 e1 hl a1 b1
  have f2' : spec_l1Once.f l i1 e1 3 = some (o, i2, e2) := f2
  unfold spec_DrawGetReq.f
  cases o with
  | true =>
    obtain ⟨t', i3, e3, f3, p3, a3, b3⟩ := l3Bytes_dr l i2 e2 hl a2 b2
    obtain ⟨p1, p2⟩ := p1
    obtain ⟨p3, p4⟩ := p3
    refine ⟨t ++ t', Ev.bind hn (Ev.bind f1 ?_), by rw [List.length_append]; omega, fun x hx => (List.mem_append.1 hx).elim (p2 x) (p4 x)⟩
    simp only [f2', Option.bind_some, if_true]
    refine Ev.bind f3 ?_
    simp only []
    rw [if_pos (by omega)]
    exact Ev.now _
  | false =>
    refine ⟨t, Ev.bind hn (Ev.bind f1 ?_), p1.mono (by omega)⟩
    simp only [f2', Option.bind_some, Bool.false_eq_true, if_false]
    exact Ev.now _

theorem at_eq (l : List Int) (hl : l.length ≤ 1048576) (hr : ∀ x ∈ l, 0 ≤ x ∧ x < 256) (a : Int) (h0 : 0 ≤ a) (h9 : a ≤ 9) : ∃ v, laws_at.f l a = some v ∧ 0 ≤ v ∧ v ≤ 255 := by
  unfold laws_at.f
  by_cases q : a < (l.length : Int)
  · rw [if_pos q, if_pos h0]
    have hn : a.toNat < l.length := by omega
    have he : rd l a = l[a.toNat] := by rw [rd, List.getD_eq_getElem?_getD, List.getElem?_eq_getElem hn, Option.getD_some]
    have := hr _ (List.getElem_mem hn)
    refine ⟨_, rfl, ?_⟩
    rw [he, wrap_id (by omega) (by omega)]; omega
  · rw [if_neg q]
    refine ⟨_, rfl, ?_⟩
    rw [wrap_id (x := a * 31) (by omega) (by omega), wrap_id (x := (l.length : Int) * 7) (by omega) (by omega), wrap_id (by omega) (by omega)]
    have := tmod_range (a * 31 + (l.length : Int) * 7) 256 (by omega) (by omega)
    omega

theorem impl_sameHeads_ev (a b : List S88) (ha : a.length ≤ 9223372036854775806) : Ev (fun k => impl_sameHeads.f k a b) (eqb a b) := by
  unfold impl_sameHeads.f
  refine ev_ite (fun q => ?_) (fun q => ?_)
  · have q' : a.length = b.length := by omega
    refine eq_loop a b (· = ·) q' ha (fun i k => impl_sameHeads.l0 k a b (a.length : Int) (i : Int)) _ ((eqb_iff a b).trans (list_eq_iff a b q')) ?_ ?_
    · intro i hi
      apply ev_succ; simp only [impl_sameHeads.l0, if_neg (show ¬ (i : Int) < a.length by omega)]; exact Ev.now _
    · intro i x y v hi hx hy hw1 ih
      have hxx : rd_T88 a (i : Int) = x := hx _
      have hyy : rd_T88 b (i : Int) = y := hy _
      refine ⟨fun hR => ?_, fun hR => ?_⟩
      · apply ev_succ
        subst hR
        simp only [impl_sameHeads.l0, if_pos (show (i : Int) < a.length by omega), if_pos (show (0 : Int) ≤ i by omega), if_pos (show (i : Int) < b.length by omega), hxx, hyy, hw1, beq_self_eq_true, Bool.not_true, Bool.or_self, Bool.false_eq_true, if_false]; exact ih
      · apply ev_succ
        simp only [impl_sameHeads.l0, if_pos (show (i : Int) < a.length by omega), if_pos (show (0 : Int) ≤ i by omega), if_pos (show (i : Int) < b.length by omega), hxx, hyy, hw1]
        refine ev_ite (fun _ => Ev.now _) (fun hn => absurd ?_ hn)
        rw [head_eq] at hR
        simp only [Bool.or_eq_true, Bool.not_eq_true', beq_eq_false_iff_ne, ne_eq, toList_iff]
        by_cases e0 : x.f0 = y.f0
        · exact .inr (fun e1 => hR ⟨e0, e1⟩)
        · exact .inl e0
  · rw [eqb_ne (fun h => q (by rw [h]))]; exact Ev.now _
theorem toList_beq (a b : ByteArray) : (a.toList == b.toList) = eqb a b := by
  rw [Bool.eq_iff_iff, beq_iff_eq, toList_iff, eqb_iff]

theorem impl_SameReq_ev (m p : ByteArray) (l : List S88) (b : ByteArray) (m' p' : ByteArray) (l' : List S88) (b' : ByteArray) (hl : l.length ≤ 9223372036854775806) : Ev (fun k => impl_SameReq.f k m p l b m' p' l' b') (decb (sameReqV m p l b m' p' l' b')) := by
  unfold impl_SameReq.f
  refine ev_ite (fun q => ?_) (fun q => ?_)
  · rw [toList_iff] at q
    refine ev_ite (fun q0 => ?_) (fun q0 => ?_)
    · rw [toList_iff] at q0
      refine Ev.bind (impl_sameHeads_ev l l' hl) (ev_iteB (fun q1 => ?_) (fun q1 => ?_))
      · rw [eqb_iff] at q1
        rw [toList_beq, show eqb b b' = decb (sameReqV m p l b m' p' l' b') from eqb_congr2 ⟨fun h => ⟨q, q0, q1, h⟩, fun h => h.2.2.2⟩]; exact Ev.now _
      · have : ¬ l = l' := fun h => by rw [(eqb_iff l l').mpr h] at q1; cases q1
        rw [decb_false (fun h => this h.2.2.1)]; exact Ev.now _
    · rw [toList_iff] at q0; rw [decb_false (fun h => q0 h.2.1)]; exact Ev.now _
  · rw [toList_iff] at q; rw [decb_false (fun h => q h.1)]; exact Ev.now _
theorem DrawHeadEnd_ev (l : List Int) (h : Int) (hl : l.length ≤ 1048576) (hn : Ev (fun k => spec_l1New.f k l) (l, (0 : Int), h)) : ∃ g, Ev (fun k => spec_DrawHeadEnd.f k l) g ∧ BtP 8000 g := by
  obtain ⟨o, i1, e1, f1, _, a1, b1⟩ := l1Once_dr 6 l 0 h hl (by omega) (by omega)
  have f1' : spec_l1Once.f l 0 h 6 = some (o, i1, e1) := f1
  unfold spec_DrawHeadEnd.f
  cases o with
  | true =>
    obtain ⟨w, i2, e2, f2, p2, a2, b2⟩ := l1Below_dr 5 l i1 e1 hl a1 b1
    have f2' : spec_l1Below.f l i1 e1 5 = some (w, i2, e2) := f2
    have hw5 := p2.2 (by omega)
    have hw0 := p2.1
    have hw2 : wrap64 (394 + w) = 394 + w := wrap_id (by omega) (by omega)
    refine ⟨List.replicate (394 + w : Int).toNat 0 ++ [13, 10, 13, 10], Ev.bind hn ?_, ?_, fun x hx => ?_⟩
    · simp only [f1', Option.bind_some, if_true, f2', hw2, if_pos (show (0 : Int) ≤ 394 + w by omega), if_pos (show (394 + w : Int).toNat ≤ 281474976710656 by omega)]
      rw [if_pos (by rw [List.length_replicate]; simp only [List.length_cons, List.length_nil]; omega)]
      exact Ev.now _
    · rw [List.length_append, List.length_replicate]; simp only [List.length_cons, List.length_nil]; omega
    · rcases List.mem_append.1 hx with hx | hx
      · rw [List.eq_of_mem_replicate hx]; omega
      · simp at hx; omega
  | false =>
    obtain ⟨t, i2, e2, f2, p2, a2, b2⟩ := l3Bytes_dr l i1 e1 hl a1 b1
    refine ⟨t, Ev.bind hn ?_, p2.mono (by omega)⟩
    simp only [f1', Option.bind_some, Bool.false_eq_true, if_false]
    exact Ev.bind f2 (Ev.now _)
theorem getQ_hs (l : List Int) (hl : l.length ≤ 1048575) (hr : ∀ x ∈ l, 0 ≤ x ∧ x < 256) : (getQ l).2.2.1.length ≤ 1048577 := by
  unfold getQ
  split
  · split <;> exact Nat.zero_le _
  · have h := (rhS_P (l.take ((headEnd l).toNat - 4)) (by rw [List.length_take]; omega) (fun x hx => hr x (List.mem_of_mem_take hx))).1.1
    unfold getC
    split
    · exact Nat.zero_le _
    · split
      · split
        · exact h
        · exact Nat.zero_le _
      · split
        · exact Nat.zero_le _
        · exact h
theorem FnMore_j0 (g : List Int) (n : Nat) (hn : n ≤ g.length) (hh : (getQ g).2.2.1.length ≤ 1048577) : Ev (fun k => laws_FnMore.j0 k (getQ g).2.2.2.2.1 (getQ g).2.2.2.2.2 (n : Int) (getQ (g.take n)).2.2.2.2.1 (getQ (g.take n)).2.2.2.2.2 false (getQ g).1 (getQ g).2.1 (getQ g).2.2.1 (getQ g).2.2.2.1 (getQ (g.take n)).1 (getQ (g.take n)).2.1 (getQ (g.take n)).2.2.1 (getQ (g.take n)).2.2.2.1) true := by
  obtain ⟨k0, kc, k1⟩ := getQ_take g n hn
  simp only [qCode, qEnd] at k0 kc k1
  apply ev_succ
  simp only [laws_FnMore.j0, Bool.false_eq_true, if_false]
  by_cases c0 : (getQ (g.take n)).2.2.2.2.2 = 0
  · have e := k0 c0
    simp only [if_pos c0]
    rw [← e] at c0 ⊢
    simp only [if_pos c0, if_true]
    have hs := impl_SameReq_ev (getQ g).1 (getQ g).2.1 (getQ g).2.2.1 (getQ g).2.2.2.1 (getQ g).1 (getQ g).2.1 (getQ g).2.2.1 (getQ g).2.2.2.1 (by omega)
    rw [decb_true ⟨rfl, rfl, rfl, rfl⟩] at hs
    exact Ev.bind hs (Ev.now _)
  · simp only [if_neg c0]
    by_cases c1 : (getQ (g.take n)).2.2.2.2.2 = 1
    · simp only [if_pos c1]
      refine ev_ite (fun _ => Ev.now _) (fun _ => ev_ite (fun q => ?_) (fun _ => Ev.now _))
      rw [decide_eq_true (k1 c1 q)]
      exact Ev.now _
    · simp only [if_neg c1, kc c0 c1, beq_self_eq_true]
      exact Ev.now _
theorem FnMore : laws_FnMore.Pure := by
  intro l hl0 _
  apply Ev.rounds
  unfold laws_FnMore.f laws_big.f
  simp only [Option.bind_some]
  refine ev_iteB (fun _ => Ev.now _) (fun q => ?_)
  have hl : l.length ≤ 1048576 := by
    have := of_decide_eq_false q
    omega
  have hr := wf_bytes hl0.2
  obtain ⟨h, hn⟩ := l1New_ev l hl
  obtain ⟨g, eg, hg, gr⟩ := DrawGetReq_ev l h hl hn
  obtain ⟨u, eu, hu, ur⟩ := DrawHeadEnd_ev l h hl hn
  obtain ⟨v, ev, v0, v9⟩ := at_eq l hl hr 2 (by omega) (by omega)
  obtain ⟨w, ew, w0, w9⟩ := at_eq l hl hr 3 (by omega) (by omega)
  have hw1 : wrap64 ((g.length : Int) + 1) = (g.length : Int) + 1 := wrap_id (by omega) (by omega)
  have hw2 : wrap64 (v * 256) = v * 256 := wrap_id (by omega) (by omega)
  have hw3 : wrap64 (v * 256 + w) = v * 256 + w := wrap_id (by omega) (by omega)
  have t0 : 0 ≤ Int.tmod (v * 256 + w) ((g.length : Int) + 1) := Int.tmod_nonneg _ (by omega)
  have t1 : Int.tmod (v * 256 + w) ((g.length : Int) + 1) < (g.length : Int) + 1 := Int.tmod_lt_of_pos _ (by omega)
  refine Ev.bind eg (Ev.bind (getReq_ev g (by omega) gr) ?_)
  simp only [ev, ew, Option.bind_some, hw1, hw2, hw3, if_neg (show ¬ (g.length : Int) + 1 = 0 by omega), if_pos t0]
  obtain ⟨n, hN⟩ : ∃ n : Nat, Int.tmod (v * 256 + w) ((g.length : Int) + 1) = (n : Int) := ⟨(Int.tmod (v * 256 + w) ((g.length : Int) + 1)).toNat, by omega⟩
  rw [hN] at t0 t1 ⊢
  simp only [if_pos (show (n : Int) ≤ (g.length : Int) by omega), Int.toNat_natCast]
  refine Ev.bind (getReq_ev (g.take n) (by rw [List.length_take]; omega) (fun x hx => gr x (List.mem_of_mem_take hx))) ?_
  simp only [impl_HeadEnd_eq g gr, Option.bind_some]
  refine Ev.bind eu ?_
  simp only [impl_HeadEnd_eq u ur, Option.bind_some]
  refine Ev.bind (spec_HeadEnd_ev u (by omega) ur) ?_
  simp only [if_true]
  refine Ev.bind (spec_HeadEnd_ev g (by omega) gr) ?_
  rw [bne_self_eq_false]
  exact FnMore_j0 g n (by omega) (getQ_hs g (by omega) gr)

end Go.Proofs.YtfncjddolbghlaaGreatDoor.Pure
