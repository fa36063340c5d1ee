/- The program's HeadEnd answers as the reference's does, for all bytes; no condition. -/
import Derived.Test.YtkjlbkfnhmeoeaaGFnExactHeadEndx1
import Derived.Test.YtkjlbkfnhmeoeaaBase
import Derived.Lib.IndexBytes
import Derived.Lib.Index
namespace Go.Proofs.Ytkjlbkfnhmeoeaa.Pure
open Go.RowKit Go.Proofs.Ytkjlbkfnhmeoeaa.GFnExactHeadEnd Go.Proofs.Ytkjlbkfnhmeoeaa.Base Go.Proofs.YtkjlbkfnhmeoeaaW.PrintWords Go.Proofs.YtkjlbkfnhmeoeaaW.PrintLast
set_option linter.unusedVariables false
set_option linter.unusedSimpArgs false

/-- a slice of bytes, as a law copies and compares it -/
theorem toByteS_ev (l : List Int) (hl : l.length ≤ 281474976710656) : Ev (fun k => laws_toByteS.f k l) l := by
  unfold laws_toByteS.f
  simp only [if_pos (show (0 : Int) ≤ (l.length : Int) by omega), Int.toNat_natCast, if_pos hl]
  have := fill_loop l (fun x => x) (0 : Int) (by omega) (fun i x k => laws_toByteS.l0 k l x (i : Int)) ?_ ?_
  · simpa using this
  · intro i x hi
    apply ev_succ; simp only [laws_toByteS.l0, if_neg (show ¬ (i : Int) < l.length by omega)]; exact Ev.now _
  · intro i x c r hi hx hb hw1 ih
    have hbb : rd l (i : Int) = c := hb _
    apply ev_succ
    simp only [laws_toByteS.l0, if_pos (show (i : Int) < l.length by omega), if_pos (show (0 : Int) ≤ i by omega), if_pos (show (i : Int) < x.length by omega), hbb, hw1]
    exact ih
theorem eqByteS_ev (a b : List Int) (ha : a.length ≤ 9223372036854775806) : Ev (fun k => laws_eqByteS.f k a b) (eqb a b) := by
  unfold laws_eqByteS.f
  refine ev_ite (fun q => ?_) (fun q => ?_)
  · have q' : a.length = b.length := by omega
    refine eq_loop a b (· = ·) q' ha (fun i k => laws_eqByteS.l0 k a b (i : Int)) _ ((eqb_iff a b).trans (list_eq_iff a b q')) ?_ ?_
    · intro i hi
      apply ev_succ; simp only [laws_eqByteS.l0, if_neg (show ¬ (i : Int) < a.length by omega)]; exact Ev.now _
    · intro i x y v hi hx hy hw1 ih
      have hxx : rd a (i : Int) = x := hx _
      have hyy : rd b (i : Int) = y := hy _
      refine ⟨fun hR => ?_, fun hR => ?_⟩
      · apply ev_succ
        simp only [laws_eqByteS.l0, if_pos (show (i : Int) < a.length by omega), if_pos (show (0 : Int) ≤ i by omega), if_pos (show (i : Int) < b.length by omega), hxx, hyy, hw1, if_pos hR]; exact ih
      · apply ev_succ
        simp only [laws_eqByteS.l0, if_pos (show (i : Int) < a.length by omega), if_pos (show (0 : Int) ≤ i by omega), if_pos (show (i : Int) < b.length by omega), hxx, hyy, hw1, if_neg hR]; exact Ev.now _
  · rw [eqb_ne (fun h => q (by rw [h]))]; exact Ev.now _
theorem wf_bytes {l : List Int} (h : ∀ x ∈ l, (Lit.int .u8 x).wf = true) : ∀ x ∈ l, 0 ≤ x ∧ x < 256 := by
  intro x hx
  have := h x hx
  simp [Lit.wf, IntKind.min, IntKind.max, IntKind.signed, IntKind.bits] at this
  omega

theorem u8_eq {a : Int} (h0 : 0 ≤ a) (h1 : a < 256) (n : Nat) (hn : n < 256) : (UInt8.ofNat n == UInt8.ofNat a.toNat) = decide (a = n) := by
  rw [Bool.eq_iff_iff, beq_iff_eq, decide_eq_true_iff]
  constructor
  · intro h
    have := congrArg UInt8.toNat h
    simp only [UInt8.toNat_ofNat'] at this
    omega
  · rintro rfl; simp
theorem pre4 (t : List Int) (hr : ∀ x ∈ t, 0 ≤ x ∧ x < 256) : ([13, 10, 13, 10] : List UInt8).isPrefixOf (t.map fun n => UInt8.ofNat n.toNat) = decide (t.take 4 = [13, 10, 13, 10]) := by
  match t, hr with
  | [], _ => rfl
  | [a], _ => simp [List.isPrefixOf]
  | [a, b], _ => simp [List.isPrefixOf]
  | [a, b, c], _ => simp [List.isPrefixOf]
  | a :: b :: c :: d :: r, hr =>
    have ha := hr a (by simp); have hb := hr b (by simp); have hc := hr c (by simp); have hd := hr d (by simp)
    have e1 := u8_eq ha.1 ha.2 13 (by omega); have e2 := u8_eq hb.1 hb.2 10 (by omega); have e3 := u8_eq hc.1 hc.2 13 (by omega); have e4 := u8_eq hd.1 hd.2 10 (by omega)
    simp only [List.map_cons, List.isPrefixOf, Bool.and_true]
    have c13 : (13 : UInt8) = UInt8.ofNat 13 := rfl
    have c10 : (10 : UInt8) = UInt8.ofNat 10 := rfl
    rw [c13, c10, e1, e2, e3, e4]
    rw [Bool.eq_iff_iff]
    simp
/-- the place behind the first empty line, from place i on -/
def fnd4 : Nat → List Int → Int
  | _, [] => -1
  | i, c :: r => if (c :: r).take 4 = [13, 10, 13, 10] then (i : Int) + 4 else fnd4 (i + 1) r
theorem fnd4_short : ∀ (t : List Int) (i : Nat), t.length < 4 → fnd4 i t = -1
  | [], _, _ => rfl
  | c :: r, i, h => by
    rw [fnd4, if_neg, fnd4_short r (i + 1) (by simp at h; omega)]
    intro e
    have := congrArg List.length e
    simp at this h
    omega
theorem fnd4_bound : ∀ (t : List Int) (i : Nat), fnd4 i t ≤ i + t.length ∧ -1 ≤ fnd4 i t
  | [], _ => by simp [fnd4]
  | c :: r, i => by
    rw [fnd4]
    split
    · rename_i e
      have := congrArg List.length e
      simp at this
      simp; omega
    · have := fnd4_bound r (i + 1)
      simp; omega
theorem index_fnd4 : ∀ (t : List Int) (i : Nat), (∀ x ∈ t, 0 ≤ x ∧ x < 256) → (if Lib.index (t.map fun n => UInt8.ofNat n.toNat) [13, 10, 13, 10] < 0 then (-1 : Int) else i + Lib.index (t.map fun n => UInt8.ofNat n.toNat) [13, 10, 13, 10] + 4) = fnd4 i t
  | [], i, _ => rfl
  | c :: r, i, hr => by
    have hp := pre4 (c :: r) hr
    have ih := index_fnd4 r (i + 1) (fun x hx => hr x (by simp [hx]))
    have hg := Lib.index_ge (r.map fun n => UInt8.ofNat n.toNat) [13, 10, 13, 10]
    rw [List.map_cons] at hp ⊢
    rw [Lib.index, hp, fnd4]
    by_cases q : (c :: r).take 4 = [13, 10, 13, 10]
    · rw [if_pos q, decide_eq_true q]; simp
    · rw [if_neg q, decide_eq_false q, ← ih]
      simp only [Bool.false_eq_true, if_false, beq_iff_eq]
      by_cases q1 : Lib.index (r.map fun n => UInt8.ofNat n.toNat) [13, 10, 13, 10] = -1
      · rw [if_pos q1, q1]; rfl
      · rw [if_neg q1, if_neg (by omega), if_neg (by omega)]
        rw [show ((i + 1 : Nat) : Int) = i + 1 from rfl]; omega
def headEnd (l : List Int) : Int := fnd4 0 (l.take 400)
theorem mn_len (l : List Int) : mn (l.length : Int) 400 = ((min l.length 400 : Nat) : Int) := by unfold mn; split <;> omega
theorem take_min (l : List Int) : l.take (min l.length 400) = l.take 400 := by
  rcases Nat.le_total l.length 400 with h | h
  · rw [Nat.min_eq_left h, List.take_of_length_le (Nat.le_refl _), List.take_of_length_le h]
  · rw [Nat.min_eq_right h]
theorem impl_HeadEnd_eq (l : List Int) (hr : ∀ x ∈ l, 0 ≤ x ∧ x < 256) : impl_HeadEnd.f l = some (headEnd l) := by
  unfold impl_HeadEnd.f
  have hm := mn_len l
  rw [hm, if_pos (by omega), if_pos (by omega), Int.toNat_natCast, take_min]
  have hsz : (strOfNums (l.take 400)).size ≤ 400 := by rw [strOfNums_size, List.length_take]; omega
  unfold strings_Index.f
  rw [if_pos (by omega), Option.bind_some, strOfNums_data]
  have h0 := index_fnd4 (l.take 400) 0 (fun x hx => hr x (List.mem_of_mem_take hx))
  have hg := Lib.index_ge ((l.take 400).map fun n => UInt8.ofNat n.toNat) [13, 10, 13, 10]
  have hl := Lib.index_le ((l.take 400).map fun n => UInt8.ofNat n.toNat) [13, 10, 13, 10]
  rw [List.length_map, List.length_take] at hl
  unfold headEnd
  rw [← h0]
  change (if Lib.index ((l.take 400).map fun n => UInt8.ofNat n.toNat) [13, 10, 13, 10] < 0 then some (-1) else some (wrap64 (Lib.index ((l.take 400).map fun n => UInt8.ofNat n.toNat) [13, 10, 13, 10] + 4))) = _
  by_cases q : Lib.index ((l.take 400).map fun n => UInt8.ofNat n.toNat) [13, 10, 13, 10] < 0
  · rw [if_pos q, if_pos q]
  · rw [if_neg q, if_neg q, wrap_id (by omega) (by omega)]; congr 1; simp
theorem spec_HeadEnd_ev (l : List Int) (hl : l.length ≤ 9223372036854775000) (hr : ∀ x ∈ l, 0 ≤ x ∧ x < 256) : Ev (fun k => spec_HeadEnd.f k l) (headEnd l) := by
  have key : ∀ (n i : Nat), i + n = 400 → Ev (fun k => spec_HeadEnd.l0 k l (i : Int)) (fnd4 i ((l.take 400).drop i)) := by
    intro n
    induction n with
    | zero =>
      intro i hi
      have e0 : (l.take 400).drop i = [] := List.drop_eq_nil_of_le (by rw [List.length_take]; omega)
      rw [e0, fnd4]
      apply ev_succ
      simp only [spec_HeadEnd.l0]
      refine ev_ite (fun _ => ?_) (fun _ => ?_)
      · rw [decide_eq_false (by unfold wrap64; omega)]
        apply ev_succ; simp only [spec_HeadEnd.j1, Bool.false_eq_true, if_false]; exact Ev.now _
      · apply ev_succ; simp only [spec_HeadEnd.j1, Bool.false_eq_true, if_false]; exact Ev.now _
    | succ n ih =>
      intro i hi
      rcases Nat.lt_or_ge i 400 with hlt | hge
      · have hw3 : wrap64 ((i : Int) + 3) = ((i + 3 : Nat) : Int) := by rw [wrap_id (by omega) (by omega)]; rfl
        have hw4 : wrap64 ((i : Int) + 4) = ((i + 4 : Nat) : Int) := by rw [wrap_id (by omega) (by omega)]; rfl
        have hw1 : wrap64 ((i : Int) + 1) = ((i + 1 : Nat) : Int) := by rw [wrap_id (by omega) (by omega)]; rfl
        have jf : Ev (fun k => spec_HeadEnd.j1 k l (i : Int) false) (-1) := by
          apply ev_succ; simp only [spec_HeadEnd.j1, Bool.false_eq_true, if_false]; exact Ev.now _
        apply ev_succ
        simp only [spec_HeadEnd.l0, hw3]
        refine ev_ite (fun q => ?_) (fun q => ?_)
        · by_cases q1 : ((i + 3 : Nat) : Int) < 400
          · rw [decide_eq_true q1]
            have hL : i < (l.take 400).length := by rw [List.length_take]; omega
            have ht : ((l.take 400).drop i) = (l.take 400)[i] :: (l.take 400).drop (i + 1) := List.drop_eq_getElem_cons hL
            have h4 : ((l.take 400).drop i).take 4 = (l.take (i + 4)).drop i := by
              rw [List.take_drop, List.take_take, show min (i + 4) 400 = i + 4 by omega]
            apply ev_succ
            simp only [spec_HeadEnd.j1, if_true, hw4, hw1, if_pos (show (0 : Int) ≤ (i : Int) by omega), if_pos (show (i : Int) ≤ ((i + 4 : Nat) : Int) by omega), if_pos (show ((i + 4 : Nat) : Int) ≤ l.length by omega), Int.toNat_natCast]
            have hc : ((strOfNums ((l.take (i + 4)).drop i)).toList = ([13, 10, 13, 10] : List UInt8)) ↔ (l.take (i + 4)).drop i = [13, 10, 13, 10] := by
              rw [Lib.toList_data, strOfNums_data]
              have hb := bytesOf_strOfNums ((l.take (i + 4)).drop i) (fun x hx => hr x (List.mem_of_mem_take (List.mem_of_mem_drop hx)))
              unfold bytesOf at hb
              rw [strOfNums_data] at hb
              constructor
              · intro h; rw [h] at hb; rw [← hb]; rfl
              · intro h; rw [h]; rfl
            rw [ht, fnd4, ← ht, h4]
            refine ev_ite (fun q2 => ?_) (fun q2 => ?_)
            · rw [if_pos (hc.mp q2)]; exact Ev.now _
            · rw [if_neg (fun h => q2 (hc.mpr h))]; exact ih (i + 1) (by omega)
          · rw [decide_eq_false q1, fnd4_short _ _ (by rw [List.length_drop, List.length_take]; omega)]; exact jf
        · rw [fnd4_short _ _ (by rw [List.length_drop, List.length_take]; omega)]; exact jf
      · omega
  exact key 400 0 rfl

theorem FnExactHeadEnd : laws_FnExactHeadEnd.Pure := by
  intro l hl0 hl
  apply Ev.rounds
  unfold laws_FnExactHeadEnd.f
  refine ev_ite (fun _ => Ev.now _) (fun q => ?_)
  have hr := wf_bytes hl0.2
  have c := toByteS_ev l (by omega)
  refine Ev.bind c (Ev.bind (spec_HeadEnd_ev l (by omega) hr) (Ev.bind c ?_))
  simp only [impl_HeadEnd_eq l hr, Option.bind_some, if_true]
  exact Ev.bind c (Ev.bind (eqByteS_ev l l (by omega)) (ev_ite (fun _ => Ev.now _) (fun q => absurd (eqb_self l) q)))

end Go.Proofs.Ytkjlbkfnhmeoeaa.Pure
