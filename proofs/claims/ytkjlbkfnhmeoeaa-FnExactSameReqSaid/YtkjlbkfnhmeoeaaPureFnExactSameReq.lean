/- The program's SameReq answers as the reference's does, for all requests; no condition. -/
import Derived.Test.YtkjlbkfnhmeoeaaGFnExactSameReqx4
import Derived.Test.YtkjlbkfnhmeoeaaBase
namespace Go.Proofs.Ytkjlbkfnhmeoeaa.Pure
open Go.RowKit Go.Proofs.Ytkjlbkfnhmeoeaa.GFnExactSameReq Go.Proofs.Ytkjlbkfnhmeoeaa.Base Go.Proofs.YtkjlbkfnhmeoeaaW.PrintWords Go.Proofs.YtkjlbkfnhmeoeaaW.PrintLast
set_option linter.unusedVariables false
set_option linter.unusedSimpArgs false

/-- what is left of a measure behind heads; -1: nothing -/
def szHL : Int → List S80 → Int
  | left, [] => left
  | left, c :: r => if left - c.f0.size < 0 then -1 else if left - c.f0.size - c.f1.size < 0 then -1 else szHL (left - c.f0.size - c.f1.size) r
def szHeads (left : Int) (l : List S80) : Int := if left - l.length < 0 then -1 else szHL (left - l.length) l
theorem szHL_le : ∀ (l : List S80) (left : Int), 0 ≤ szHL left l → 0 ≤ left → szHL left l ≤ left ∧ ∀ x ∈ l, (x.f0.size : Int) ≤ left ∧ (x.f1.size : Int) ≤ left
  | [], left, h, _ => ⟨Int.le_refl _, fun x hx => by cases hx⟩
  | c :: r, left, h, h0 => by
    simp only [szHL] at h ⊢
    by_cases q : left - c.f0.size < 0
    · rw [if_pos q] at h; omega
    · rw [if_neg q] at h ⊢
      by_cases q2 : left - c.f0.size - c.f1.size < 0
      · rw [if_pos q2] at h; omega
      · rw [if_neg q2] at h ⊢
        have := szHL_le r (left - c.f0.size - c.f1.size) h (by omega)
        refine ⟨by omega, fun x hx => ?_⟩
        rcases List.mem_cons.mp hx with rfl | hx
        · omega
        · have := this.2 x hx; omega
theorem szHeads_le {left : Int} {l : List S80} (h : ¬ szHeads left l < 0) : (l.length : Int) ≤ left ∧ szHeads left l ≤ left ∧ ∀ x ∈ l, (x.f0.size : Int) ≤ left ∧ (x.f1.size : Int) ≤ left := by
  unfold szHeads at h ⊢
  by_cases q : left - l.length < 0
  · rw [if_pos q] at h; omega
  · rw [if_neg q] at h ⊢
    have := szHL_le l (left - l.length) (by omega) (by omega)
    exact ⟨by omega, by omega, fun x hx => by have := this.2 x hx; omega⟩
theorem szHeadS_ev (l : List S80) (left : Int) (hl : l.length ≤ 9223372036854775807 ∧ ∀ x ∈ l, (x.f0.size ≤ 9223372036854775807) ∧ (x.f1.size ≤ 9223372036854775807)) (h0 : 0 ≤ left) (h1 : left ≤ 1048576) : Ev (fun k => laws_szHeadS.f k l left) (szHeads left l) := by
  unfold laws_szHeadS.f szHeads
  rw [wrap_id (x := left - l.length) (by omega) (by omega)]
  refine ev_ite (fun q => ?_) (fun q => ?_)
  · rw [if_pos q]; exact Ev.now _
  · rw [if_neg q]
    refine list_loop_st l (by omega) (fun i x k => laws_szHeadS.l0 k l x (i : Int)) (fun _ x r => szHL x r) (fun i x r => 0 ≤ x ∧ x ≤ 1048576 ∧ ∀ c ∈ r, (c.f0.size ≤ 9223372036854775807) ∧ (c.f1.size ≤ 9223372036854775807)) ?_ ?_ 0 _ ⟨by omega, by omega, hl.2⟩
    · intro i x _ hi
      apply ev_succ; simp only [laws_szHeadS.l0, if_neg (show ¬ (i : Int) < l.length by omega)]; exact Ev.now _
    · intro i x c r ⟨hx0, hx1, hr⟩ h hb hi hw1 ih
      have hcs := hr c (by simp)
      have hbb : rd_T80 l (i : Int) = c := hb _
      apply ev_succ
      simp only [laws_szHeadS.l0, if_pos (show (i : Int) < l.length by omega), if_pos (show (0 : Int) ≤ i by omega), hbb, hw1, laws_szHead.f, szHL]
      rw [wrap_id (x := x - c.f0.size) (by omega) (by omega)]
      by_cases q0 : x - c.f0.size < 0
      · simp only [if_pos q0, Option.bind_some, if_pos (show (-1 : Int) < 0 by omega)]; exact Ev.now _
      · simp only [if_neg q0]
        rw [wrap_id (x := x - c.f0.size - c.f1.size) (by omega) (by omega)]
        by_cases q1 : x - c.f0.size - c.f1.size < 0
        · simp only [if_pos q1, Option.bind_some, if_pos (show (-1 : Int) < 0 by omega)]; exact Ev.now _
        · simp only [if_neg q1, Option.bind_some]
          exact ih _ ⟨by omega, by omega, fun d hd => hr d (by simp [hd])⟩
def toH (x : S80) : S81 := ⟨x.f0, x.f1⟩
theorem toHeadS_ev (l : List S80) (hl : l.length ≤ 8796093022208) : Ev (fun k => laws_toHeadS.f k l) (l.map toH) := by
  unfold laws_toHeadS.f
  simp only [if_pos (show (0 : Int) ≤ (l.length : Int) by omega), Int.toNat_natCast, if_pos hl]
  refine fill_loop l toH z81 (by omega) (fun i x k => laws_toHeadS.l0 k l x (i : Int)) ?_ ?_
  · intro i x hi
    apply ev_succ; simp only [laws_toHeadS.l0, if_neg (show ¬ (i : Int) < l.length by omega)]; exact Ev.now _
  · intro i x c r hi hx hb hw1 ih
    have hbb : rd_T80 l (i : Int) = c := hb _
    apply ev_succ
    simp only [laws_toHeadS.l0, if_pos (show (i : Int) < l.length by omega), if_pos (show (0 : Int) ≤ i by omega), if_pos (show (i : Int) < x.length by omega), hbb, hw1, laws_toHead.f, Option.bind_some]
    exact ih
theorem head_eq (x y : S81) : x = y ↔ x.f0 = y.f0 ∧ x.f1 = y.f1 := by cases x; cases y; simp
theorem eqHeadS_ev (a b : List S81) (ha : a.length ≤ 9223372036854775806) : Ev (fun k => laws_eqHeadS.f k a b) (eqb a b) := by
  unfold laws_eqHeadS.f
  refine ev_ite (fun q => ?_) (fun q => ?_)
  · have q' : a.length = b.length := by omega
    refine eq_loop a b (· = ·) q' ha (fun i k => laws_eqHeadS.l0 k a b (i : Int)) _ ((eqb_iff a b).trans (list_eq_iff a b q')) ?_ ?_
    · intro i hi
      apply ev_succ; simp only [laws_eqHeadS.l0, if_neg (show ¬ (i : Int) < a.length by omega)]; exact Ev.now _
    · intro i x y v hi hx hy hw1 ih
      have hxx : rd_T81 a (i : Int) = x := hx _
      have hyy : rd_T81 b (i : Int) = y := hy _
      refine ⟨fun hR => ?_, fun hR => ?_⟩
      · apply ev_succ
        subst hR
        simp only [laws_eqHeadS.l0, if_pos (show (i : Int) < a.length by omega), if_pos (show (0 : Int) ≤ i by omega), if_pos (show (i : Int) < b.length by omega), hxx, hyy, hw1, laws_eqHead.f, if_true, Option.bind_some]; exact ih
      · apply ev_succ
        simp only [laws_eqHeadS.l0, if_pos (show (i : Int) < a.length by omega), if_pos (show (0 : Int) ≤ i by omega), if_pos (show (i : Int) < b.length by omega), hxx, hyy, hw1, laws_eqHead.f, toList_iff]
        by_cases e0 : x.f0 = y.f0
        · by_cases e1 : x.f1 = y.f1
          · exact absurd ((head_eq x y).mpr ⟨e0, e1⟩) hR
          · simp only [if_pos e0, if_neg e1, Option.bind_some]; simpa using Ev.now false
        · simp only [if_neg e0, Option.bind_some]; simpa using Ev.now false
  · rw [eqb_ne (fun h => q (by rw [h]))]; exact Ev.now _

theorem impl_sameHeads_ev (a b : List S81) (ha : a.length ≤ 9223372036854775806) : Ev (fun k => impl_sameHeads.f k a b) (eqb a b) := by
  unfold impl_sameHeads.f
  refine ev_ite (fun q => ?_) (fun q => ?_)
  · have q' : a.length = b.length := by omega
    refine eq_loop a b (· = ·) q' ha (fun i k => impl_sameHeads.l0 k a b (a.length : Int) (i : Int)) _ ((eqb_iff a b).trans (list_eq_iff a b q')) ?_ ?_
    · intro i hi
      apply ev_succ; simp only [impl_sameHeads.l0, if_neg (show ¬ (i : Int) < a.length by omega)]; exact Ev.now _
    · intro i x y v hi hx hy hw1 ih
      have hxx : rd_T81 a (i : Int) = x := hx _
      have hyy : rd_T81 b (i : Int) = y := hy _
      refine ⟨fun hR => ?_, fun hR => ?_⟩
      · apply ev_succ
        subst hR
        simp only [impl_sameHeads.l0, if_pos (show (i : Int) < a.length by omega), if_pos (show (0 : Int) ≤ i by omega), if_pos (show (i : Int) < b.length by omega), hxx, hyy, hw1, beq_self_eq_true, Bool.not_true, Bool.or_self, Bool.false_eq_true, if_false]; exact ih
      · apply ev_succ
        simp only [impl_sameHeads.l0, if_pos (show (i : Int) < a.length by omega), if_pos (show (0 : Int) ≤ i by omega), if_pos (show (i : Int) < b.length by omega), hxx, hyy, hw1]
        refine ev_ite (fun _ => Ev.now _) (fun hn => absurd ?_ hn)
        rw [head_eq] at hR
        simp only [Bool.or_eq_true, Bool.not_eq_true', beq_eq_false_iff_ne, ne_eq, toList_iff]
        by_cases e0 : x.f0 = y.f0
        · exact .inr (fun e1 => hR ⟨e0, e1⟩)
        · exact .inl e0
  · rw [eqb_ne (fun h => q (by rw [h]))]; exact Ev.now _
theorem spec_l3SameHeads_ev (a b : List S81) (ha : a.length ≤ 9223372036854775806) : Ev (fun k => spec_l3SameHeads.f k a b) (eqb a b) := by
  unfold spec_l3SameHeads.f
  refine ev_ite (fun q => ?_) (fun q => ?_)
  · have q' : a.length = b.length := by omega
    refine eq_loop a b (· = ·) q' ha (fun i k => spec_l3SameHeads.l0 k a b (i : Int)) _ ((eqb_iff a b).trans (list_eq_iff a b q')) ?_ ?_
    · intro i hi
      apply ev_succ; simp only [spec_l3SameHeads.l0, if_neg (show ¬ (i : Int) < a.length by omega)]; exact Ev.now _
    · intro i x y v hi hx hy hw1 ih
      have hxx : rd_T81 a (i : Int) = x := hx _
      have hyy : rd_T81 b (i : Int) = y := hy _
      refine ⟨fun hR => ?_, fun hR => ?_⟩
      · apply ev_succ
        subst hR
        simp only [spec_l3SameHeads.l0, if_pos (show (i : Int) < a.length by omega), if_pos (show (0 : Int) ≤ i by omega), if_pos (show (i : Int) < b.length by omega), hxx, hyy, hw1, beq_self_eq_true, Bool.not_true, Bool.or_self, Bool.false_eq_true, if_false]; exact ih
      · apply ev_succ
        simp only [spec_l3SameHeads.l0, if_pos (show (i : Int) < a.length by omega), if_pos (show (0 : Int) ≤ i by omega), if_pos (show (i : Int) < b.length by omega), hxx, hyy, hw1]
        refine ev_ite (fun _ => Ev.now _) (fun hn => absurd ?_ hn)
        rw [head_eq] at hR
        simp only [Bool.or_eq_true, Bool.not_eq_true', beq_eq_false_iff_ne, ne_eq, toList_iff]
        by_cases e0 : x.f0 = y.f0
        · exact .inr (fun e1 => hR ⟨e0, e1⟩)
        · exact .inl e0
  · rw [eqb_ne (fun h => q (by rw [h]))]; exact Ev.now _
theorem toList_beq (a b : ByteArray) : (a.toList == b.toList) = eqb a b := by
  rw [Bool.eq_iff_iff, beq_iff_eq, toList_iff, eqb_iff]

def szReqV (left : Int) (m p : ByteArray) (l : List S80) (b : ByteArray) : Int :=
  if left - m.size < 0 then -1 else if left - m.size - p.size < 0 then -1 else if szHeads (left - m.size - p.size) l < 0 then -1 else if szHeads (left - m.size - p.size) l - b.size < 0 then -1 else szHeads (left - m.size - p.size) l - b.size
theorem szReq_ev (m p : ByteArray) (l : List S80) (b : ByteArray) (left : Int) (hm : m.size ≤ 9223372036854775807) (hp : p.size ≤ 9223372036854775807) (hl : l.length ≤ 9223372036854775807 ∧ ∀ x ∈ l, (x.f0.size ≤ 9223372036854775807) ∧ (x.f1.size ≤ 9223372036854775807)) (hb : b.size ≤ 9223372036854775807) (h0 : 0 ≤ left) (h1 : left ≤ 1048576) : Ev (fun k => laws_szReq.f k m p l b left) (szReqV left m p l b) := by
  unfold laws_szReq.f szReqV
  rw [wrap_id (x := left - m.size) (by omega) (by omega)]
  refine ev_ite (fun q => ?_) (fun q => ?_)
  · rw [if_pos q]; exact Ev.now _
  · rw [if_neg q, wrap_id (x := left - m.size - p.size) (by omega) (by omega)]
    refine ev_ite (fun q => ?_) (fun q => ?_)
    · rw [if_pos q]; exact Ev.now _
    · rw [if_neg q]
      refine Ev.bind (szHeadS_ev l _ hl (by omega) (by omega)) (ev_ite (fun q => ?_) (fun q => ?_))
      · rw [if_pos q]; exact Ev.now _
      · obtain ⟨_, a1, _⟩ := szHeads_le q
        rw [if_neg q, wrap_id (x := szHeads (left - m.size - p.size) l - b.size) (by omega) (by omega)]
        refine ev_ite (fun q1 => ?_) (fun q1 => ?_)
        · rw [if_pos q1]; exact Ev.now _
        · rw [if_neg q1]; exact Ev.now _
theorem szReq_le {left : Int} {m p : ByteArray} {l : List S80} {b : ByteArray} (h : ¬ szReqV left m p l b < 0) : (l.length : Int) ≤ left ∧ szReqV left m p l b ≤ left ∧ (m.size : Int) ≤ left ∧ (p.size : Int) ≤ left ∧ (b.size : Int) ≤ left ∧ ∀ x ∈ l, (x.f0.size : Int) ≤ left ∧ (x.f1.size : Int) ≤ left := by
  unfold szReqV at h ⊢
  by_cases q : left - m.size < 0
  · rw [if_pos q] at h; omega
  · rw [if_neg q] at h ⊢
    by_cases q : left - m.size - p.size < 0
    · rw [if_pos q] at h; omega
    · rw [if_neg q] at h ⊢
      by_cases q : szHeads (left - m.size - p.size) l < 0
      · rw [if_pos q] at h; omega
      · obtain ⟨a0, a1, a2⟩ := szHeads_le q
        rw [if_neg q] at h ⊢
        by_cases q1 : szHeads (left - m.size - p.size) l - b.size < 0
        · rw [if_pos q1] at h; omega
        · rw [if_neg q1] at h ⊢; exact ⟨by omega, by omega, by omega, by omega, by omega, fun x hx => by have := a2 x hx; omega⟩
theorem toReq_ev (m p : ByteArray) (l : List S80) (b : ByteArray) (hl : l.length ≤ 8796093022208) : Ev (fun k => laws_toReq.f k m p l b) (m, p, l.map toH, b) := by
  unfold laws_toReq.f
  exact Ev.bind (toHeadS_ev l hl) (Ev.now _)
def sameReqV (m p : ByteArray) (l : List S81) (b : ByteArray) (m' p' : ByteArray) (l' : List S81) (b' : ByteArray) : Prop := m = m' ∧ p = p' ∧ l = l' ∧ b = b'
theorem eqReq_ev (m p : ByteArray) (l : List S81) (b : ByteArray) (m' p' : ByteArray) (l' : List S81) (b' : ByteArray) (hl : l.length ≤ 9223372036854775806) : Ev (fun k => laws_eqReq.f k m p l b m' p' l' b') (decb (sameReqV m p l b m' p' l' b')) := by
  unfold laws_eqReq.f
  refine ev_ite (fun q => ?_) (fun q => ?_)
  · rw [toList_iff] at q
    refine ev_ite (fun q0 => ?_) (fun q0 => ?_)
    · rw [toList_iff] at q0
      refine Ev.bind (eqHeadS_ev l l' hl) (ev_iteB (fun q1 => ?_) (fun q1 => ?_))
      · rw [eqb_iff] at q1
        refine ev_ite (fun q2 => ?_) (fun q2 => ?_)
        · rw [toList_iff] at q2; rw [decb_true ⟨q, q0, q1, q2⟩]; exact Ev.now _
        · rw [toList_iff] at q2; rw [decb_false (fun h => q2 h.2.2.2)]; exact Ev.now _
      · have : ¬ l = l' := fun h => by rw [(eqb_iff l l').mpr h] at q1; cases q1
        rw [decb_false (fun h => this h.2.2.1)]; exact Ev.now _
    · rw [toList_iff] at q0; rw [decb_false (fun h => q0 h.2.1)]; exact Ev.now _
  · rw [toList_iff] at q; rw [decb_false (fun h => q h.1)]; exact Ev.now _

theorem impl_SameReq_ev (m p : ByteArray) (l : List S81) (b : ByteArray) (m' p' : ByteArray) (l' : List S81) (b' : ByteArray) (hl : l.length ≤ 9223372036854775806) : Ev (fun k => impl_SameReq.f k m p l b m' p' l' b') (decb (sameReqV m p l b m' p' l' b')) := by
  unfold impl_SameReq.f
  refine ev_ite (fun q => ?_) (fun q => ?_)
  · rw [toList_iff] at q
    refine ev_ite (fun q0 => ?_) (fun q0 => ?_)
    · rw [toList_iff] at q0
      refine Ev.bind (impl_sameHeads_ev l l' hl) (ev_iteB (fun q1 => ?_) (fun q1 => ?_))
      · rw [eqb_iff] at q1
        rw [toList_beq, show eqb b b' = decb (sameReqV m p l b m' p' l' b') from eqb_congr2 ⟨fun h => ⟨q, q0, q1, h⟩, fun h => h.2.2.2⟩]; exact Ev.now _
      · have : ¬ l = l' := fun h => by rw [(eqb_iff l l').mpr h] at q1; cases q1
        rw [decb_false (fun h => this h.2.2.1)]; exact Ev.now _
    · rw [toList_iff] at q0; rw [decb_false (fun h => q0 h.2.1)]; exact Ev.now _
  · rw [toList_iff] at q; rw [decb_false (fun h => q h.1)]; exact Ev.now _
theorem spec_SameReq_ev (m p : ByteArray) (l : List S81) (b : ByteArray) (m' p' : ByteArray) (l' : List S81) (b' : ByteArray) (hl : l.length ≤ 9223372036854775806) : Ev (fun k => spec_SameReq.f k m p l b m' p' l' b') (decb (sameReqV m p l b m' p' l' b')) := by
  unfold spec_SameReq.f
  refine ev_ite (fun q => ?_) (fun q => ?_)
  · rw [toList_iff] at q
    refine ev_ite (fun q0 => ?_) (fun q0 => ?_)
    · rw [toList_iff] at q0
      refine Ev.bind (spec_l3SameHeads_ev l l' hl) (ev_iteB (fun q1 => ?_) (fun q1 => ?_))
      · rw [eqb_iff] at q1
        rw [toList_beq, show eqb b b' = decb (sameReqV m p l b m' p' l' b') from eqb_congr2 ⟨fun h => ⟨q, q0, q1, h⟩, fun h => h.2.2.2⟩]; exact Ev.now _
      · have : ¬ l = l' := fun h => by rw [(eqb_iff l l').mpr h] at q1; cases q1
        rw [decb_false (fun h => this h.2.2.1)]; exact Ev.now _
    · rw [toList_iff] at q0; rw [decb_false (fun h => q0 h.2.1)]; exact Ev.now _
  · rw [toList_iff] at q; rw [decb_false (fun h => q h.1)]; exact Ev.now _

theorem FnExactSameReq : laws_FnExactSameReq.Pure := by
  intro m p l b m' p' l' b' hm hp hl hb hm' hp' hl' hb'
  apply Ev.rounds
  unfold laws_FnExactSameReq.f
  refine Ev.bind (szReq_ev m p l b 1048576 hm hp hl hb (by omega) (by omega)) (ev_ite (fun _ => Ev.now _) (fun q0 => ?_))
  obtain ⟨a0, a1, _⟩ := szReq_le q0
  refine Ev.bind (szReq_ev m' p' l' b' _ hm' hp' hl' hb' (by omega) (by omega)) (ev_ite (fun _ => Ev.now _) (fun q1 => ?_))
  obtain ⟨b0, _, _⟩ := szReq_le q1
  have c0 := toReq_ev m p l b (by omega)
  have c1 := toReq_ev m' p' l' b' (by omega)
  have hm : (l.map toH).length ≤ 9223372036854775806 := by simp; omega
  have hm' : (l'.map toH).length ≤ 9223372036854775806 := by simp; omega
  refine Ev.bind c0 (Ev.bind c1 (Ev.bind (spec_SameReq_ev _ _ _ _ _ _ _ _ hm) (Ev.bind c0 (Ev.bind c1 (Ev.bind (impl_SameReq_ev _ _ _ _ _ _ _ _ hm) (ev_ite (fun q => absurd q (by simp)) (fun _ => ?_)))))))
  refine Ev.bind c0 (Ev.bind (eqReq_ev _ _ _ _ _ _ _ _ hm) (ev_ite (fun _ => ?_) (fun q => absurd (decb_true ⟨rfl, rfl, rfl, rfl⟩) q)))
  refine Ev.bind c1 (Ev.bind (eqReq_ev _ _ _ _ _ _ _ _ hm') (ev_ite (fun _ => Ev.now _) (fun q => absurd (decb_true ⟨rfl, rfl, rfl, rfl⟩) q)))

end Go.Proofs.Ytkjlbkfnhmeoeaa.Pure
