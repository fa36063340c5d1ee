/- The program's Joined answers as the reference's does, for all rows of bytes; no condition. -/
import Derived.Test.YtgfpiijpgpkoiaaGFnExactJoinedx2
import Derived.Test.YtgfpiijpgpkoiaaBase
namespace Go.Proofs.Ytgfpiijpgpkoiaa.Pure
open Go.RowKit Go.Proofs.Ytgfpiijpgpkoiaa.GFnExactJoined Go.Proofs.Ytgfpiijpgpkoiaa.Base Go.Proofs.YtgfpiijpgpkoiaaW.PrintWords Go.Proofs.YtgfpiijpgpkoiaaW.PrintLast
set_option linter.unusedVariables false
set_option linter.unusedSimpArgs false


theorem eqByteS_ev (a b : List Int) (ha : a.length ≤ 9223372036854775806) : Ev (fun k => laws_eqByteS.f k a b) (eqb a b) := by
  unfold laws_eqByteS.f
  refine ev_ite (fun q => ?_) (fun q => ?_)
  · have q' : a.length = b.length := by omega
    refine eq_loop a b (· = ·) q' ha (fun i k => laws_eqByteS.l0 k a b (i : Int)) _ ((eqb_iff a b).trans (list_eq_iff a b q')) ?_ ?_
    · intro i hi
      apply ev_succ; simp only [laws_eqByteS.l0, if_neg (show ¬ (i : Int) < a.length by omega)]; exact Ev.now _
    · intro i x y v hi hx hy hw1 ih
      have hxx : rd a (i : Int) = x := hx _
      have hyy : rd b (i : Int) = y := hy _
      refine ⟨fun hR => ?_, fun hR => ?_⟩
      · apply ev_succ
        simp only [laws_eqByteS.l0, if_pos (show (i : Int) < a.length by omega), if_pos (show (0 : Int) ≤ i by omega), if_pos (show (i : Int) < b.length by omega), hxx, hyy, hw1, if_pos hR]; exact ih
      · apply ev_succ
        simp only [laws_eqByteS.l0, if_pos (show (i : Int) < a.length by omega), if_pos (show (0 : Int) ≤ i by omega), if_pos (show (i : Int) < b.length by omega), hxx, hyy, hw1, if_neg hR]; exact Ev.now _
  · rw [eqb_ne (fun h => q (by rw [h]))]; exact Ev.now _

/-- a slice of bytes, as a law copies and compares it -/
theorem toByteS_ev (l : List Int) (hl : l.length ≤ 281474976710656) : Ev (fun k => laws_toByteS.f k l) l := by
  unfold laws_toByteS.f
  simp only [if_pos (show (0 : Int) ≤ (l.length : Int) by omega), Int.toNat_natCast, if_pos hl]
  have := fill_loop l (fun x => x) (0 : Int) (by omega) (fun i x k => laws_toByteS.l0 k l x (i : Int)) ?_ ?_
  · simpa using this
  · intro i x hi
    apply ev_succ; simp only [laws_toByteS.l0, if_neg (show ¬ (i : Int) < l.length by omega)]; exact Ev.now _
  · intro i x c r hi hx hb hw1 ih
    have hbb : rd l (i : Int) = c := hb _
    apply ev_succ
    simp only [laws_toByteS.l0, if_pos (show (i : Int) < l.length by omega), if_pos (show (0 : Int) ≤ i by omega), if_pos (show (i : Int) < x.length by omega), hbb, hw1]
    exact ih
theorem wf_bytes {l : List Int} (h : ∀ x ∈ l, (Lit.int .u8 x).wf = true) : ∀ x ∈ l, 0 ≤ x ∧ x < 256 := by
  intro x hx
  have := h x hx
  simp [Lit.wf, IntKind.min, IntKind.max, IntKind.signed, IntKind.bits] at this
  omega

theorem markByteS_l0 : ∀ (n : Nat) (x : List Int) (a : Int) (i : Nat), x.length - i = n → i ≤ x.length → x.length ≤ 8796093022208 → 0 ≤ a → a + n ≤ 1125899906842624 → ∃ y, Ev (fun k => laws_markByteS.l0 k x a (i : Int)) (a + n, y) ∧ y.length = x.length ∧ (∀ j, j < i → y[j]? = x[j]?) ∧ ∀ j, i ≤ j → j < x.length → y[j]? = some ((a + (j - i : Nat)) % 256)
  | 0, x, a, i, hn, hi, hl, h0, h1 => by
    refine ⟨x, ?_, rfl, fun _ _ => rfl, fun j h2 h3 => by omega⟩
    apply ev_succ
    simp only [laws_markByteS.l0, if_neg (show ¬ (i : Int) < x.length by omega)]
    rw [show a + ((0 : Nat) : Int) = a by omega]; exact Ev.now _
  | n + 1, x, a, i, hn, hi, hl, h0, h1 => by
    obtain ⟨y, h2, h3, h4, h5⟩ := markByteS_l0 n (x.set i (a % 256)) (a + 1) (i + 1) (by simp; omega) (by simp; omega) (by simp; omega) (by omega) (by omega)
    refine ⟨y, ?_, by rw [h3]; simp, ?_, ?_⟩
    · apply ev_succ
      simp only [laws_markByteS.l0, if_pos (show (i : Int) < x.length by omega), if_pos (show (0 : Int) ≤ i by omega), Int.toNat_natCast, wrap_id (x := a + 1) (by omega) (by omega), show wrap64 ((i : Int) + 1) = ((i + 1 : Nat) : Int) from by rw [wrap_id (by omega) (by omega)]; omega]
      rw [show a + ((n + 1 : Nat) : Int) = a + 1 + n by omega]; exact h2
    · intro j hj
      rw [h4 j (by omega), List.getElem?_set, if_neg (by omega)]
    · intro j hj hx
      rcases Nat.lt_or_ge i j with q | q
      · rw [h5 j (by omega) (by simp; omega)]
        congr 2; omega
      · have : j = i := by omega
        subst this
        rw [h4 j (by omega), List.getElem?_set, if_pos rfl, if_pos (by omega)]
        congr 2; omega
def Marked (a : Int) (y : List Int) : Prop := ∀ j, j < y.length → y[j]? = some ((a + (j : Int)) % 256)
theorem markByteS_ev (x : List Int) (a : Int) (hl : x.length ≤ 8796093022208) (h0 : 0 ≤ a) (h1 : a ≤ 8796093022208) : ∃ y, Ev (fun k => laws_markByteS.f k x a) (a + x.length, y) ∧ y.length = x.length ∧ Marked a y := by
  obtain ⟨y, h2, h3, _, h5⟩ := markByteS_l0 x.length x a 0 rfl (by omega) hl h0 (by omega)
  refine ⟨y, h2, h3, fun j hj => ?_⟩
  rw [h5 j (by omega) (by omega)]
  rfl
theorem heldByteS_l0 : ∀ (n : Nat) (y : List Int) (a : Int) (i : Nat), y.length - i = n → i ≤ y.length → y.length ≤ 8796093022208 → 0 ≤ a → a ≤ 8796093022208 → Marked a y → Ev (fun k => laws_heldByteS.l0 k y (a + i) (i : Int)) (a + y.length)
  | 0, y, a, i, hn, hi, hl, h0, h1, hm => by
    apply ev_succ
    simp only [laws_heldByteS.l0, if_neg (show ¬ (i : Int) < y.length by omega)]
    rw [show a + (y.length : Int) = a + i by omega]; exact Ev.now _
  | n + 1, y, a, i, hn, hi, hl, h0, h1, hm => by
    have ih := heldByteS_l0 n y a (i + 1) (by omega) (by omega) hl h0 h1 hm
    have hr : rd y (i : Int) = (a + i) % 256 := by
      unfold rd
      rw [Int.toNat_natCast, List.getD_eq_getElem?_getD, hm i (by omega)]; rfl
    apply ev_succ
    simp only [laws_heldByteS.l0, if_pos (show (i : Int) < y.length by omega), if_pos (show (0 : Int) ≤ i by omega), hr, if_true, show wrap64 ((i : Int) + 1) = ((i + 1 : Nat) : Int) from by rw [wrap_id (by omega) (by omega)]; omega, show wrap64 (a + (i : Int) + 1) = a + ((i + 1 : Nat) : Int) from by rw [wrap_id (by omega) (by omega)]; omega]
    exact ih
theorem heldByteS_ev (y : List Int) (a : Int) (hl : y.length ≤ 8796093022208) (h0 : 0 ≤ a) (h1 : a ≤ 8796093022208) (hm : Marked a y) : Ev (fun k => laws_heldByteS.f k y a) (a + y.length) := by
  have := heldByteS_l0 y.length y a 0 rfl (by omega) hl h0 h1 hm
  simpa [laws_heldByteS.f] using this

def szLL (left : Int) : List (List Int) → Int
  | [] => left
  | x :: r => if left - (x.length : Int) < 0 then -1 else szLL (left - x.length) r
theorem szLL_le : ∀ (l : List (List Int)) (left : Int), ¬ szLL left l < 0 → ((l.map List.length).sum : Int) ≤ left
  | [], left, h => by simp only [szLL] at h; simp; omega
  | x :: r, left, h => by
    simp only [szLL] at h
    by_cases q : left - (x.length : Int) < 0
    · rw [if_pos q] at h; exact absurd (by decide) h
    · rw [if_neg q] at h
      have := szLL_le r _ h
      simp only [List.map_cons, List.sum_cons]
      omega
theorem len_le_sum (l : List (List Int)) (x : List Int) (h : x ∈ l) : x.length ≤ (l.map List.length).sum := by
  induction l with
  | nil => cases h
  | cons y r ih =>
    simp only [List.map_cons, List.sum_cons]
    rcases List.mem_cons.1 h with rfl | h
    · omega
    · have := ih h; omega
theorem getD_mem {l : List (List Int)} {i : Nat} {c : List Int} (hi : i < l.length) (h : ∀ d, l.getD (i : Int).toNat d = c) : c ∈ l := by
  have := h []
  rw [Int.toNat_natCast, List.getD_eq_getElem?_getD, List.getElem?_eq_getElem hi, Option.getD_some] at this
  rw [← this]; exact List.getElem_mem hi
theorem szByteSS_ev (l : List (List Int)) (hl : l.length ≤ 9223372036854775806) (hx : ∀ x ∈ l, x.length ≤ 9223372036854775807) : Ev (fun k => laws_szByteSS.f k l 1048576) (if 1048576 - (l.length : Int) < 0 then -1 else szLL (1048576 - l.length) l) := by
  unfold laws_szByteSS.f
  have hw : wrap64 (1048576 - (l.length : Int)) = 1048576 - (l.length : Int) := wrap_id (by omega) (by omega)
  simp only [hw]
  refine ev_ite (fun q => ?_) (fun q => ?_)
  · rw [if_pos q]; exact Ev.now _
  · rw [if_neg q]
    have := list_loop_st l hl (fun i (x : Int) k => laws_szByteSS.l0 k l x (i : Int)) (fun _ x r => szLL x r) (fun _ x _ => 0 ≤ x ∧ x ≤ 1048576) ?_ ?_ 0 (1048576 - (l.length : Int)) ⟨by omega, by omega⟩
    · rw [List.drop_zero] at this; exact this
    · intro i x _ hi
      apply ev_succ; simp only [laws_szByteSS.l0, if_neg (show ¬ (i : Int) < l.length by omega)]; exact Ev.now _
    · intro i x c r ⟨h0, h1⟩ hd hb hi hw1 ih
      have hbb : rd_L1 l (i : Int) = c := hb _
      have hc := hx c (getD_mem hi hb)
      have hw2 : wrap64 (x - (c.length : Int)) = x - (c.length : Int) := wrap_id (by omega) (by omega)
      apply ev_succ
      simp only [laws_szByteSS.l0, if_pos (show (i : Int) < l.length by omega), if_pos (show (0 : Int) ≤ i by omega), hbb, laws_szByteS.f, hw2, hw1]
      by_cases q2 : x - (c.length : Int) < 0
      · simp only [if_pos q2, Option.bind_some, szLL, if_pos (show (-1 : Int) < 0 by decide)]; exact Ev.now _
      · simp only [if_neg q2, Option.bind_some, szLL]
        exact ih _ ⟨by omega, by omega⟩
theorem toByteSS_ev (l : List (List Int)) (hl : l.length ≤ 1048576) (hx : ∀ x ∈ l, x.length ≤ 1048576) : Ev (fun k => laws_toByteSS.f k l) l := by
  unfold laws_toByteSS.f
  simp only [if_pos (show (0 : Int) ≤ (l.length : Int) by omega), Int.toNat_natCast, if_pos (show l.length ≤ 11728124029610 by omega)]
  have := fill_loop l (fun x => x) ([] : List Int) (by omega) (fun i x k => laws_toByteSS.l0 k l x (i : Int)) ?_ ?_
  · simpa using this
  · intro i x hi
    apply ev_succ; simp only [laws_toByteSS.l0, if_neg (show ¬ (i : Int) < l.length by omega)]; exact Ev.now _
  · intro i x c r hi hxl hb hw1 ih
    have hbb : rd_L1 l (i : Int) = c := hb _
    have hc := hx c (getD_mem hi hb)
    apply ev_succ
    simp only [laws_toByteSS.l0, if_pos (show (i : Int) < l.length by omega), if_pos (show (0 : Int) ≤ i by omega), hbb]
    refine Ev.bind (toByteS_ev c (by omega)) ?_
    simp only [if_pos (show (i : Int) < x.length by omega), hw1]
    exact ih
theorem flat_le (l : List (List Int)) : l.flatten.length = (l.map List.length).sum := by rw [List.length_flatten]
theorem spec_Joined_ev (l : List (List Int)) (hl : l.length ≤ 1048576) (hs : (l.map List.length).sum ≤ 1048576) : Ev (fun k => spec_Joined.f k l) l.flatten := by
  have := list_loop_st l (by omega) (fun i (x : List Int) k => spec_Joined.l0 k l x (i : Int)) (fun _ x r => x ++ r.flatten) (fun _ x r => x.length + (r.map List.length).sum ≤ 1048576) ?_ ?_ 0 [] (by simp; omega)
  · rw [List.drop_zero, List.nil_append] at this
    exact this
  · intro i x _ hi
    apply ev_succ; simp only [spec_Joined.l0, if_neg (show ¬ (i : Int) < l.length by omega), List.flatten_nil, List.append_nil]; exact Ev.now _
  · intro i x c r hI hd hb hi hw1 ih
    have hbb : rd_L1 l (i : Int) = c := hb _
    simp only [List.map_cons, List.sum_cons] at hI
    apply ev_succ
    simp only [spec_Joined.l0, if_pos (show (i : Int) < l.length by omega), if_pos (show (0 : Int) ≤ i by omega), hbb, if_pos (show x.length + c.length < 140737488355328 by omega), hw1]
    have := ih (x ++ c) (by rw [List.length_append]; omega)
    rw [List.append_assoc] at this
    rw [List.flatten_cons]
    exact this
theorem impl_Joined_ev (l : List (List Int)) (hl : l.length ≤ 1048576) (hs : (l.map List.length).sum ≤ 1048576) : Ev (fun k => impl_Joined.f k l) l.flatten := by
  have := list_loop_st l (by omega) (fun i (x : List Int) k => impl_Joined.l0 k x l (l.length : Int) (i : Int)) (fun _ x r => x ++ r.flatten) (fun _ x r => x.length + (r.map List.length).sum ≤ 1048576) ?_ ?_ 0 [] (by simp; omega)
  · rw [List.drop_zero, List.nil_append] at this
    exact this
  · intro i x _ hi
    apply ev_succ; simp only [impl_Joined.l0, if_neg (show ¬ (i : Int) < l.length by omega), List.flatten_nil, List.append_nil]; exact Ev.now _
  · intro i x c r hI hd hb hi hw1 ih
    have hbb : rd_L1 l (i : Int) = c := hb _
    simp only [List.map_cons, List.sum_cons] at hI
    apply ev_succ
    simp only [impl_Joined.l0, if_pos (show (i : Int) < l.length by omega), if_pos (show (0 : Int) ≤ i by omega), hbb, if_pos (show x.length + c.length < 140737488355328 by omega), hw1]
    have := ih (x ++ c) (by rw [List.length_append]; omega)
    rw [List.append_assoc] at this
    rw [List.flatten_cons]
    exact this
theorem eqByteSS_ev (l : List (List Int)) (hl : l.length ≤ 1048576) (hx : ∀ x ∈ l, x.length ≤ 1048576) : Ev (fun k => laws_eqByteSS.f k l l) true := by
  unfold laws_eqByteSS.f
  simp only [if_true]
  have := list_loop_st l (by omega) (fun i (_ : Unit) k => laws_eqByteSS.l0 k l l (i : Int)) (fun _ _ _ => true) (fun _ _ _ => True) ?_ ?_ 0 () trivial
  · exact this
  · intro i x _ hi
    apply ev_succ; simp only [laws_eqByteSS.l0, if_neg (show ¬ (i : Int) < l.length by omega)]; exact Ev.now _
  · intro i x c r hI hd hb hi hw1 ih
    have hbb : rd_L1 l (i : Int) = c := hb _
    have hc := hx c (getD_mem hi hb)
    have ee := eqByteS_ev c c (by omega)
    rw [eqb_self] at ee
    apply ev_succ
    simp only [laws_eqByteSS.l0, if_pos (show (i : Int) < l.length by omega), if_pos (show (0 : Int) ≤ i by omega), hbb, hw1]
    refine Ev.bind ee ?_
    simp only [if_true]
    exact ih () trivial
theorem FnExactJoined : laws_FnExactJoined.Pure := by
  intro l hw
  apply Ev.rounds
  unfold laws_FnExactJoined.f
  by_cases h64 : l.length ≤ 9223372036854775806
  rotate_left
  · have hl : l.length = 9223372036854775807 := by have := hw.1; omega
    have e : ∀ k, laws_szByteSS.f k l 1048576 = some (-1) := fun k => by
      unfold laws_szByteSS.f
      have hw : wrap64 (1048576 - (l.length : Int)) = 1048576 - (l.length : Int) := wrap_id (by omega) (by omega)
      rw [hw, if_pos (by omega)]
    refine Ev.bind (Ev.congr e (Ev.now _)) ?_
    simp only [if_pos (show (-1 : Int) < 0 by decide)]
    exact Ev.now _
  refine Ev.bind (szByteSS_ev l h64 (fun x hx => (hw.2 x hx).1)) (ev_ite (fun _ => Ev.now _) (fun q0 => ?_))
  by_cases q : 1048576 - (l.length : Int) < 0
  · rw [if_pos q] at q0; exact absurd (by decide) q0
  rw [if_neg q] at q0
  have hsum := szLL_le l _ q0
  have hl : l.length ≤ 1048576 := by omega
  have hs : (l.map List.length).sum ≤ 1048576 := by omega
  have hx : ∀ x ∈ l, x.length ≤ 1048576 := fun x hx => by have := len_le_sum l x hx; omega
  have c0 := toByteSS_ev l hl hx
  have es := spec_Joined_ev l hl hs
  have ei := impl_Joined_ev l hl hs
  have hv : l.flatten.length ≤ 1048576 := by rw [flat_le]; exact hs
  generalize l.flatten = V at es ei hv
  have ee := eqByteS_ev V V (by omega)
  rw [eqb_self] at ee
  have e2 := eqByteSS_ev l hl hx
  have hm : laws_markByteSS.f l 1 = some (1 + ((l.map List.length).sum : Int), l) := by
    unfold laws_markByteSS.f
    rw [if_pos ⟨by omega, by omega, by omega⟩]
  refine Ev.bind c0 (Ev.bind es (Ev.bind c0 (Ev.bind ei (Ev.bind ee (ev_ite (fun _ => ?_) (fun q => absurd rfl q))))))
  refine Ev.bind c0 (Ev.bind e2 (ev_ite (fun _ => ?_) (fun q => absurd rfl q)))
  simp only [hm, Option.bind_some]
  refine ev_ite (fun q => absurd q (by omega)) (fun _ => ?_)
  refine Ev.bind ee ?_
  apply ev_succ
  simp only [laws_FnExactJoined.j0, Bool.not_true, Bool.false_eq_true, if_false]
  obtain ⟨z, hz1, hz2, hz3⟩ := markByteS_ev V 1 (by omega) (by omega) (by omega)
  have hh := heldByteS_ev z 1 (by omega) (by omega) (by omega) hz3
  rw [hz2] at hh
  refine Ev.bind hz1 (Ev.bind hh (ev_ite (fun q => absurd q (by omega)) (fun _ => ev_ite (fun _ => ?_) (fun q => absurd rfl q))))
  refine Ev.bind c0 (Ev.bind ei (Ev.bind ee (ev_ite (fun _ => ?_) (fun q => absurd rfl q))))
  exact Ev.bind hh (ev_ite (fun q => absurd q (by omega)) (fun _ => ev_ite (fun _ => Ev.now _) (fun q => absurd rfl q)))

end Go.Proofs.Ytgfpiijpgpkoiaa.Pure
