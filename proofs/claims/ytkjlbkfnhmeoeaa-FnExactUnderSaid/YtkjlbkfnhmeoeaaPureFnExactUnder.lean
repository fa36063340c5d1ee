/- The program's Under answers as the reference's does, for all lists of texts; no condition. -/
import Derived.Test.YtkjlbkfnhmeoeaaGFnExactUnderx2
import Derived.Test.YtkjlbkfnhmeoeaaBase
namespace Go.Proofs.Ytkjlbkfnhmeoeaa.Pure
open Go.RowKit Go.Proofs.Ytkjlbkfnhmeoeaa.GFnExactUnder Go.Proofs.Ytkjlbkfnhmeoeaa.Base Go.Proofs.YtkjlbkfnhmeoeaaW.PrintWords Go.Proofs.YtkjlbkfnhmeoeaaW.PrintLast
set_option linter.unusedVariables false
set_option linter.unusedSimpArgs false

/-- what is left of a measure behind a list of texts; -1: nothing -/
def szL : Int → List ByteArray → Int
  | left, [] => left
  | left, c :: r => if left - c.size < 0 then -1 else szL (left - c.size) r
def szStrs (left : Int) (l : List ByteArray) : Int := if left - l.length < 0 then -1 else szL (left - l.length) l
theorem szL_le : ∀ (l : List ByteArray) (left : Int), 0 ≤ szL left l → 0 ≤ left → szL left l ≤ left ∧ ∀ x ∈ l, (x.size : Int) ≤ left
  | [], left, h, _ => ⟨Int.le_refl _, fun x hx => by cases hx⟩
  | c :: r, left, h, h0 => by
    simp only [szL] at h ⊢
    by_cases q : left - c.size < 0
    · rw [if_pos q] at h; omega
    · rw [if_neg q] at h ⊢
      have := szL_le r (left - c.size) h (by omega)
      refine ⟨by omega, fun x hx => ?_⟩
      rcases List.mem_cons.mp hx with rfl | hx
      · omega
      · have := this.2 x hx; omega
theorem szStrs_le {left : Int} {l : List ByteArray} (h : ¬ szStrs left l < 0) : (l.length : Int) ≤ left ∧ szStrs left l ≤ left ∧ ∀ x ∈ l, (x.size : Int) ≤ left := by
  unfold szStrs at h ⊢
  by_cases q : left - l.length < 0
  · rw [if_pos q] at h; omega
  · rw [if_neg q] at h ⊢
    have := szL_le l (left - l.length) (by omega) (by omega)
    exact ⟨by omega, by omega, fun x hx => by have := this.2 x hx; omega⟩
theorem szStringS_ev (l : List ByteArray) (left : Int) (hl : l.length ≤ 9223372036854775807 ∧ ∀ x ∈ l, x.size ≤ 9223372036854775807) (h0 : 0 ≤ left) (h1 : left ≤ 1048576) : Ev (fun k => laws_szStringS.f k l left) (szStrs left l) := by
  unfold laws_szStringS.f szStrs
  rw [wrap_id (x := left - l.length) (by omega) (by omega)]
  refine ev_ite (fun q => ?_) (fun q => ?_)
  · rw [if_pos q]; exact Ev.now _
  · rw [if_neg q]
    refine list_loop_st l (by omega) (fun i x k => laws_szStringS.l0 k l x (i : Int)) (fun _ x r => szL x r) (fun i x r => 0 ≤ x ∧ x ≤ 1048576 ∧ ∀ c ∈ r, c.size ≤ 9223372036854775807) ?_ ?_ 0 _ ⟨by omega, by omega, hl.2⟩
    · intro i x _ hi
      apply ev_succ; simp only [laws_szStringS.l0, if_neg (show ¬ (i : Int) < l.length by omega)]; exact Ev.now _
    · intro i x c r ⟨hx0, hx1, hr⟩ h hb hi hw1 ih
      have hcs := hr c (by simp)
      have hbb : rdOf ByteArray.empty l (i : Int) = c := hb _
      apply ev_succ
      simp only [laws_szStringS.l0, if_pos (show (i : Int) < l.length by omega), if_pos (show (0 : Int) ≤ i by omega), hbb, hw1, wrap_id (x := x - c.size) (by omega) (by omega), szL]
      refine ev_ite (fun q => ?_) (fun q => ?_)
      · rw [if_pos q]; exact Ev.now _
      · rw [if_neg q]; exact ih _ ⟨by omega, by omega, fun d hd => hr d (by simp [hd])⟩
theorem toStringS_ev (l : List ByteArray) (hl : l.length ≤ 17592186044416) : Ev (fun k => laws_toStringS.f k l) l := by
  unfold laws_toStringS.f
  simp only [if_pos (show (0 : Int) ≤ (l.length : Int) by omega), Int.toNat_natCast, if_pos hl]
  have := fill_loop l (fun x => x) (⟨#[]⟩ : ByteArray) (by omega) (fun i x k => laws_toStringS.l0 k l x (i : Int)) ?_ ?_
  · simpa using this
  · intro i x hi
    apply ev_succ; simp only [laws_toStringS.l0, if_neg (show ¬ (i : Int) < l.length by omega)]; exact Ev.now _
  · intro i x c r hi hx hb hw1 ih
    have hbb : rdOf ByteArray.empty l (i : Int) = c := hb _
    apply ev_succ
    simp only [laws_toStringS.l0, if_pos (show (i : Int) < l.length by omega), if_pos (show (0 : Int) ≤ i by omega), if_pos (show (i : Int) < x.length by omega), hbb, hw1]
    exact ih
theorem eqStringS_ev (a b : List ByteArray) (ha : a.length ≤ 9223372036854775806) : Ev (fun k => laws_eqStringS.f k a b) (eqb a b) := by
  unfold laws_eqStringS.f
  refine ev_ite (fun q => ?_) (fun q => ?_)
  · have q' : a.length = b.length := by omega
    refine eq_loop a b (· = ·) q' ha (fun i k => laws_eqStringS.l0 k a b (i : Int)) _ ((eqb_iff a b).trans (list_eq_iff a b q')) ?_ ?_
    · intro i hi
      apply ev_succ; simp only [laws_eqStringS.l0, if_neg (show ¬ (i : Int) < a.length by omega)]; exact Ev.now _
    · intro i x y v hi hx hy hw1 ih
      have hxx : rdOf ByteArray.empty a (i : Int) = x := hx _
      have hyy : rdOf ByteArray.empty b (i : Int) = y := hy _
      refine ⟨fun hR => ?_, fun hR => ?_⟩
      · apply ev_succ
        simp only [laws_eqStringS.l0, if_pos (show (i : Int) < a.length by omega), if_pos (show (0 : Int) ≤ i by omega), if_pos (show (i : Int) < b.length by omega), hxx, hyy, hw1, toList_iff, if_pos hR]; exact ih
      · apply ev_succ
        simp only [laws_eqStringS.l0, if_pos (show (i : Int) < a.length by omega), if_pos (show (0 : Int) ≤ i by omega), if_pos (show (i : Int) < b.length by omega), hxx, hyy, hw1, toList_iff, if_neg hR]; exact Ev.now _
  · rw [eqb_ne (fun h => q (by rw [h]))]; exact Ev.now _

theorem impl_SamePath_ev (a b : List ByteArray) (ha : a.length ≤ 9223372036854775806) : Ev (fun k => impl_SamePath.f k a b) (eqb a b) := by
  unfold impl_SamePath.f
  refine ev_ite (fun q => ?_) (fun q => ?_)
  · have q' : a.length = b.length := by omega
    refine eq_loop a b (· = ·) q' ha (fun i k => impl_SamePath.l0 k a b (a.length : Int) (i : Int)) _ ((eqb_iff a b).trans (list_eq_iff a b q')) ?_ ?_
    · intro i hi
      apply ev_succ; simp only [impl_SamePath.l0, if_neg (show ¬ (i : Int) < a.length by omega)]; exact Ev.now _
    · intro i x y v hi hx hy hw1 ih
      have hxx : rdOf ByteArray.empty a (i : Int) = x := hx _
      have hyy : rdOf ByteArray.empty b (i : Int) = y := hy _
      refine ⟨fun hR => ?_, fun hR => ?_⟩
      · apply ev_succ
        simp only [impl_SamePath.l0, if_pos (show (i : Int) < a.length by omega), if_pos (show (0 : Int) ≤ i by omega), if_pos (show (i : Int) < b.length by omega), hxx, hyy, hw1, toList_iff, if_pos hR]; exact ih
      · apply ev_succ
        simp only [impl_SamePath.l0, if_pos (show (i : Int) < a.length by omega), if_pos (show (0 : Int) ≤ i by omega), if_pos (show (i : Int) < b.length by omega), hxx, hyy, hw1, toList_iff, if_neg hR]; exact Ev.now _
  · rw [eqb_ne (fun h => q (by rw [h]))]; exact Ev.now _
theorem spec_SamePath_ev (a b : List ByteArray) (ha : a.length ≤ 9223372036854775806) : Ev (fun k => spec_SamePath.f k a b) (eqb a b) := by
  unfold spec_SamePath.f
  refine ev_ite (fun q => ?_) (fun q => ?_)
  · have q' : a.length = b.length := by omega
    refine eq_loop a b (· = ·) q' ha (fun i k => spec_SamePath.l0 k a b (i : Int)) _ ((eqb_iff a b).trans (list_eq_iff a b q')) ?_ ?_
    · intro i hi
      apply ev_succ; simp only [spec_SamePath.l0, if_neg (show ¬ (i : Int) < a.length by omega)]; exact Ev.now _
    · intro i x y v hi hx hy hw1 ih
      have hxx : rdOf ByteArray.empty a (i : Int) = x := hx _
      have hyy : rdOf ByteArray.empty b (i : Int) = y := hy _
      refine ⟨fun hR => ?_, fun hR => ?_⟩
      · apply ev_succ
        simp only [spec_SamePath.l0, if_pos (show (i : Int) < a.length by omega), if_pos (show (0 : Int) ≤ i by omega), if_pos (show (i : Int) < b.length by omega), hxx, hyy, hw1, toList_iff, if_pos hR]; exact ih
      · apply ev_succ
        simp only [spec_SamePath.l0, if_pos (show (i : Int) < a.length by omega), if_pos (show (0 : Int) ≤ i by omega), if_pos (show (i : Int) < b.length by omega), hxx, hyy, hw1, toList_iff, if_neg hR]; exact Ev.now _
  · rw [eqb_ne (fun h => q (by rw [h]))]; exact Ev.now _

theorem impl_Under_ev (a b : List ByteArray) (ha : a.length ≤ 9223372036854775806) : Ev (fun k => impl_Under.f k a b) (decide (b.length < a.length) && eqb (a.take b.length) b) := by
  unfold impl_Under.f
  refine ev_ite (fun q => ?_) (fun q => ?_)
  · simp only [if_pos (show (0 : Int) ≤ (b.length : Int) by omega), if_pos (show (b.length : Int) ≤ (a.length : Int) by omega), Int.toNat_natCast]
    rw [decide_eq_true (show b.length < a.length by omega), Bool.true_and]
    exact Ev.bind (impl_SamePath_ev _ _ (by simp; omega)) (Ev.now _)
  · rw [decide_eq_false (by omega), Bool.false_and]; exact Ev.now _
theorem spec_Under_ev (a b : List ByteArray) (ha : a.length ≤ 9223372036854775806) : Ev (fun k => spec_Under.f k a b) (decide (b.length < a.length) && eqb (a.take b.length) b) := by
  unfold spec_Under.f
  refine ev_ite (fun q => ?_) (fun q => ?_)
  · simp only [if_pos (show (0 : Int) ≤ (b.length : Int) by omega), if_pos (show (b.length : Int) ≤ (a.length : Int) by omega), Int.toNat_natCast]
    rw [decide_eq_true (show b.length < a.length by omega), Bool.true_and]
    exact Ev.bind (spec_SamePath_ev _ _ (by simp; omega)) (Ev.now _)
  · rw [decide_eq_false (by omega), Bool.false_and]; exact Ev.now _

theorem FnExactUnder : laws_FnExactUnder.Pure := by
  intro l0 l1 h0 h1
  apply Ev.rounds
  unfold laws_FnExactUnder.f
  refine Ev.bind (szStringS_ev l0 1048576 h0 (by omega) (by omega)) (ev_ite (fun _ => Ev.now _) (fun q0 => ?_))
  obtain ⟨a0, a1, _⟩ := szStrs_le q0
  refine Ev.bind (szStringS_ev l1 _ h1 (by omega) (by omega)) (ev_ite (fun _ => Ev.now _) (fun q1 => ?_))
  obtain ⟨b0, _, _⟩ := szStrs_le q1
  have c0 := toStringS_ev l0 (by omega)
  have c1 := toStringS_ev l1 (by omega)
  refine Ev.bind c0 (Ev.bind c1 (Ev.bind (spec_Under_ev l0 l1 (by omega)) (Ev.bind c0 (Ev.bind c1 (Ev.bind (impl_Under_ev l0 l1 (by omega)) (ev_ite (fun q => absurd q (by simp)) (fun _ => ?_)))))))
  refine Ev.bind c0 (Ev.bind (eqStringS_ev l0 l0 (by omega)) (ev_ite (fun _ => ?_) (fun q => absurd (eqb_self l0) q)))
  refine Ev.bind c1 (Ev.bind (eqStringS_ev l1 l1 (by omega)) (ev_ite (fun _ => Ev.now _) (fun q => absurd (eqb_self l1) q)))

end Go.Proofs.Ytkjlbkfnhmeoeaa.Pure
