/- The program's Unquote answers as the reference's does, for every text; no condition. -/
import Derived.Test.YtkjlbkfnhmeoeaaPFnExactUnquotex2
import Derived.Test.YtkjlbkfnhmeoeaaBase
namespace Go.Proofs.Ytkjlbkfnhmeoeaa.Pure
open Go.RowKit Go.Proofs.Ytkjlbkfnhmeoeaa.PFnExactUnquote Go.Proofs.Ytkjlbkfnhmeoeaa.Base Go.Proofs.YtkjlbkfnhmeoeaaW.PrintWords Go.Proofs.YtkjlbkfnhmeoeaaW.PrintLast
set_option linter.unusedVariables false
set_option linter.unusedSimpArgs false

/-- byte classes -/
def plainC (c : Int) : Bool := decide (32 ≤ c) && decide (c ≤ 126)
def smallC (c : Int) : Bool := decide (97 ≤ c) && decide (c ≤ 122)
def digitC (c : Int) : Bool := decide (48 ≤ c) && decide (c ≤ 57)
def largeC (c : Int) : Bool := decide (65 ≤ c) && decide (c ≤ 90)

theorem l1In_eq (c a b : Int) : spec_l1In.f c a b = some (decide (a ≤ c) && decide (c ≤ b)) := by
  unfold spec_l1In.f; split <;> simp [*] <;> omega

theorem l1Digit_eq (c : Int) (h : wrap64 c = c) : spec_l1Digit.f c = some (digitC c) := by
  unfold spec_l1Digit.f; rw [h, l1In_eq]; rfl

theorem isDigit_eq (c : Int) : impl_isDigit.f c = some (digitC c) := by
  unfold impl_isDigit.f digitC; split <;> simp [*] <;> omega

/-- a digit's worth to the base 16, or -1 -/
def hexC (c : Int) : Int := if digitC c = true then c - 48 else if 97 ≤ c ∧ c ≤ 102 then c - 87 else if 65 ≤ c ∧ c ≤ 70 then c - 55 else -1
theorem hexC_range (c : Int) : -1 ≤ hexC c ∧ hexC c < 16 := by
  unfold hexC digitC
  split
  · rename_i h; simp at h; omega
  · split
    · omega
    · split <;> omega
theorem digitOf_ev (c : Int) (h0 : 0 ≤ c) (h1 : c < 256) : Ev (fun k => impl_digitOf.f k c) (hexC c) := by
  have H : ∀ k, impl_digitOf.f (k + 1) c = some (hexC c) := by
    intro k
    simp only [impl_digitOf.f, isDigit_eq, Option.bind_some, impl_digitOf.j0, hexC]
    by_cases a1 : 48 ≤ c <;> by_cases a2 : c ≤ 57 <;> by_cases a3 : 97 ≤ c <;> by_cases a4 : c ≤ 102 <;> by_cases a5 : 65 ≤ c <;> by_cases a6 : c ≤ 70
    all_goals first | (exfalso; omega) | (simp [digitC, a1, a2, a3, a4, a5, a6, ge_iff_le]; done) | (simp [digitC, a1, a2, a3, a4, a5, a6, ge_iff_le]; omega)
  exact Ev.step H (Ev.now _)
theorem l1HexOf_eq (c : Int) (h0 : 0 ≤ c) (h1 : c < 256) : spec_l1HexOf.f c = some (hexC c) := by
  have hw : wrap64 c = c := wrap_id (by omega) (by omega)
  simp only [spec_l1HexOf.f, l1Digit_eq c hw, Option.bind_some, hw, l1In_eq, hexC]
  by_cases q : digitC c = true
  · rw [if_pos q, if_pos q, wrap_id (by omega) (by omega)]
  · rw [if_neg q, if_neg q]
    by_cases q1 : 97 ≤ c ∧ c ≤ 102
    · rw [if_pos (by simpa using q1), if_pos q1, wrap_id (x := c - 97) (by omega) (by omega), wrap_id (by omega) (by omega)]; congr 1; omega
    · rw [if_neg (by simpa using q1), if_neg q1]
      by_cases q2 : 65 ≤ c ∧ c ≤ 70
      · rw [if_pos (by simpa using q2), if_pos q2, wrap_id (x := c - 65) (by omega) (by omega), wrap_id (by omega) (by omega)]; congr 1; omega
      · rw [if_neg (by simpa using q2), if_neg q2]

/-- what stands for bytes quoted; none: it is not right -/
def unq : List Int → Option (List Int)
  | [] => some []
  | [c] => if c = 37 then none else some [c]
  | [c, a] => if c = 37 then none else (unq [a]).map (c :: ·)
  | c :: a :: b :: r => if c = 37 then (if hexC a < 0 ∨ hexC b < 0 then none else (unq r).map ((hexC a * 16 + hexC b) :: ·)) else (unq (a :: b :: r)).map (c :: ·)
def unqR (acc : List Int) : Option (List Int) → ByteArray × Bool
  | some o => (strOfNums (acc ++ o), true)
  | none => (⟨#[]⟩, false)
def unquote (s : ByteArray) : ByteArray × Bool := unqR [] (unq (bytesOf s))
theorem unq_plain (c : Int) (r : List Int) (h : c ≠ 37) : unq (c :: r) = (unq r).map (c :: ·) := by
  match r with
  | [] => simp only [unq, if_neg h, Option.map_some]
  | [a] => simp only [unq, if_neg h]
  | a :: b :: r => rw [unq, if_neg h]
theorem unq_short (r : List Int) (h : r.length < 2) : unq (37 :: r) = none := by
  match r, h with
  | [], _ => rfl
  | [_], _ => rfl
theorem unq_bad (a b : Int) (r : List Int) (h : hexC a < 0 ∨ hexC b < 0) : unq (37 :: a :: b :: r) = none := by rw [unq, if_pos rfl, if_pos h]
theorem unq_good (a b : Int) (r : List Int) (h : ¬ (hexC a < 0 ∨ hexC b < 0)) : unq (37 :: a :: b :: r) = (unq r).map ((hexC a * 16 + hexC b) :: ·) := by rw [unq, if_pos rfl, if_neg h]
theorem unqR_cons (acc : List Int) (c : Int) (o : Option (List Int)) : unqR acc (o.map (c :: ·)) = unqR (acc ++ [c]) o := by
  cases o <;> simp [unqR]
/-- Strong induction over the bytes that are left. -/
theorem drop_rec {s : ByteArray} {P : Nat → List Int → Prop} (H : ∀ i rest, (bytesOf s).drop i = rest → (∀ j rest', (bytesOf s).drop j = rest' → i < j → j ≤ s.size → P j rest') → P i rest) : ∀ i rest, (bytesOf s).drop i = rest → P i rest := by
  have key : ∀ n i rest, s.size - i ≤ n → (bytesOf s).drop i = rest → P i rest := by
    intro n
    induction n with
    | zero => intro i rest hn h; exact H i rest h (fun j rest' hj hlt hle => by omega)
    | succ n ih => intro i rest hn h; exact H i rest h (fun j rest' hj hlt hle => ih j rest' (by omega) hj)
  exact fun i rest h => key _ i rest (Nat.le_refl _) h
theorem impl_Unquote_l0 {s : ByteArray} (hs : s.size ≤ 140737488351232) : ∀ i rest, (bytesOf s).drop i = rest → ∀ acc : List Int, acc.length ≤ i → Ev (fun k => impl_Unquote.l0 k s acc (i : Int)) (unqR acc (unq rest)) := by
  refine drop_rec ?_
  intro i rest h ih acc ha
  match rest, h with
  | [], h =>
    have hi := size_drop h
    apply ev_succ; simp only [impl_Unquote.l0, if_neg (show ¬ (i : Int) < s.size by omega)]
    have : unqR acc (unq []) = (strOfNums acc, true) := by simp [unq, unqR]
    rw [this]; exact Ev.now _
  | c :: r, h =>
    obtain ⟨hb, hi, hd⟩ := bt_drop h
    have hw1 := wrap_nat hs hi
    have hw2 : wrap64 ((i : Int) + 2) = ((i + 2 : Nat) : Int) := by rw [wrap_id (by omega) (by omega)]; rfl
    apply ev_succ
    simp only [impl_Unquote.l0, if_pos (show (i : Int) < s.size by omega), if_pos (show (0 : Int) ≤ i by omega), hb, hw1, hw2, if_pos (show acc.length < 140737488355328 by omega)]
    refine ev_ite (fun q => ?_) (fun q => ?_)
    · subst q
      have hl : s.size = i + 1 + r.length := by have := congrArg List.length h; rw [List.length_drop, bytesOf_length] at this; simp at this; omega
      match r, hd, hl with
      | [], hd, hl =>
        rw [unq_short _ (by simp)]; simp at hl
        simp only [if_pos (show ((i + 2 : Nat) : Int) ≥ s.size by omega)]; exact Ev.now _
      | [_], hd, hl =>
        rw [unq_short _ (by simp)]; simp at hl
        simp only [if_pos (show ((i + 2 : Nat) : Int) ≥ s.size by omega)]; exact Ev.now _
      | a :: b :: r', hd, hl =>
        simp at hl
        have g1 : ¬ ((i + 2 : Nat) : Int) ≥ s.size := by omega
        have g2 : (0 : Int) ≤ ((i + 1 : Nat) : Int) := by omega
        have g3 : ((i + 1 : Nat) : Int) < s.size := by omega
        have g4 : (0 : Int) ≤ ((i + 2 : Nat) : Int) := by omega
        have g5 : ((i + 2 : Nat) : Int) < s.size := by omega
        have hw3 : wrap64 (((i + 2 : Nat) : Int) + 1) = ((i + 3 : Nat) : Int) := by rw [wrap_id (by omega) (by omega)]; rfl
        have g6 : acc.length < 140737488355328 := by omega
        have g7 : i + 3 ≤ s.size := by omega
        obtain ⟨hb1, hi1, hd1⟩ := bt_drop hd
        obtain ⟨hb2, hi2, hd2⟩ := bt_drop hd1
        have ra := bytesOf_range s a (List.mem_of_mem_drop (by rw [hd]; simp : a ∈ (bytesOf s).drop (i + 1)))
        have rb := bytesOf_range s b (List.mem_of_mem_drop (by rw [hd1]; simp : b ∈ (bytesOf s).drop (i + 1 + 1)))
        have xa := hexC_range a; have xb := hexC_range b
        have hb2' : bt s ((i + 2 : Nat) : Int) = b := hb2
        simp only [if_neg g1, if_pos g2, if_pos g3, if_pos g4, if_pos g5, hb1, hb2', hw3]
        refine Ev.bind (digitOf_ev a ra.1 ra.2) (Ev.bind (digitOf_ev b rb.1 rb.2) (ev_ite (fun q1 => ?_) (fun q1 => ev_ite (fun q2 => ?_) (fun q2 => ?_))))
        · rw [unq_bad _ _ _ (.inl q1)]; exact Ev.now _
        · rw [unq_bad _ _ _ (.inr q2)]; exact Ev.now _
        · rw [unq_good _ _ _ (fun hh => hh.elim q1 q2), unqR_cons]
          have e : (wrap64 (wrap64 (16 * hexC a) + hexC b)) % 256 = hexC a * 16 + hexC b := by
            clear hb hb1 hb2 hb2' hw1 hw2 hw3
            rw [wrap_id (x := 16 * hexC a) (by omega) (by omega), wrap_id (by omega) (by omega)]; omega
          rw [e]
          have hd3 : (bytesOf s).drop (i + 3) = r' := hd2
          have hz := ih (i + 3) r' hd3 (by clear hb hb1 hb2 hb2' hw1 hw2 hw3; omega) g7 (acc ++ [hexC a * 16 + hexC b]) (by clear hb hb1 hb2 hb2' hw1 hw2 hw3; rw [List.length_append]; simp; omega)
          exact hz
    · rw [unq_plain _ _ q, unqR_cons]
      exact ih (i + 1) r hd (by omega) (by omega) _ (by simp; omega)
theorem impl_Unquote_ev (s : ByteArray) (hs : s.size ≤ 140737488351232) : Ev (fun k => impl_Unquote.f k s) (unquote s) := impl_Unquote_l0 hs 0 _ rfl [] (by simp)
theorem spec_Unquote_l0 {s : ByteArray} (hs : s.size ≤ 140737488351232) : ∀ i rest, (bytesOf s).drop i = rest → ∀ acc : List Int, acc.length ≤ i → Ev (fun k => spec_Unquote.l0 k s acc (i : Int)) (unqR acc (unq rest)) := by
  refine drop_rec ?_
  intro i rest h ih acc ha
  match rest, h with
  | [], h =>
    have hi := size_drop h
    apply ev_succ; simp only [spec_Unquote.l0, if_neg (show ¬ (i : Int) < s.size by omega)]
    have : unqR acc (unq []) = (strOfNums acc, true) := by simp [unq, unqR]
    rw [this]; exact Ev.now _
  | c :: r, h =>
    obtain ⟨hb, hi, hd⟩ := bt_drop h
    have hw1 := wrap_nat hs hi
    have hw2 : wrap64 ((i : Int) + 2) = ((i + 2 : Nat) : Int) := by rw [wrap_id (by omega) (by omega)]; rfl
    have jt : ∀ (a : List Int) (x : Int), Ev (fun k => spec_Unquote.j1 k s a x true) ((⟨#[]⟩ : ByteArray), false) := by
      intro a x; apply ev_succ; simp only [spec_Unquote.j1, if_true]; exact Ev.now _
    apply ev_succ
    simp only [spec_Unquote.l0, if_pos (show (i : Int) < s.size by omega), if_pos (show (0 : Int) ≤ i by omega), hb, hw1, hw2, if_pos (show acc.length < 140737488355328 by omega)]
    refine ev_ite (fun q => ?_) (fun q => ?_)
    · subst q
      have hl : s.size = i + 1 + r.length := by have := congrArg List.length h; rw [List.length_drop, bytesOf_length] at this; simp at this; omega
      match r, hd, hl with
      | [], hd, hl =>
        rw [unq_short _ (by simp)]; simp at hl
        simp only [if_pos (show ((i + 2 : Nat) : Int) ≥ s.size by omega)]; exact jt _ _
      | [_], hd, hl =>
        rw [unq_short _ (by simp)]; simp at hl
        simp only [if_pos (show ((i + 2 : Nat) : Int) ≥ s.size by omega)]; exact jt _ _
      | a :: b :: r', hd, hl =>
        simp at hl
        have g1 : ¬ ((i + 2 : Nat) : Int) ≥ s.size := by omega
        have g2 : (0 : Int) ≤ ((i + 1 : Nat) : Int) := by omega
        have g3 : ((i + 1 : Nat) : Int) < s.size := by omega
        have g4 : (0 : Int) ≤ ((i + 2 : Nat) : Int) := by omega
        have g5 : ((i + 2 : Nat) : Int) < s.size := by omega
        have hw3 : wrap64 (((i + 2 : Nat) : Int) + 1) = ((i + 3 : Nat) : Int) := by rw [wrap_id (by omega) (by omega)]; rfl
        have g6 : acc.length < 140737488355328 := by omega
        have g7 : i + 3 ≤ s.size := by omega
        obtain ⟨hb1, hi1, hd1⟩ := bt_drop hd
        obtain ⟨hb2, hi2, hd2⟩ := bt_drop hd1
        have ra := bytesOf_range s a (List.mem_of_mem_drop (by rw [hd]; simp : a ∈ (bytesOf s).drop (i + 1)))
        have rb := bytesOf_range s b (List.mem_of_mem_drop (by rw [hd1]; simp : b ∈ (bytesOf s).drop (i + 1 + 1)))
        have xa := hexC_range a; have xb := hexC_range b
        have hb2' : bt s ((i + 2 : Nat) : Int) = b := hb2
        simp only [if_neg g1, if_pos g2, if_pos g3, if_pos g4, if_pos g5, hb1, hb2', l1HexOf_eq a ra.1 ra.2, l1HexOf_eq b rb.1 rb.2, Option.bind_some]
        refine ev_ite (fun q1 => ?_) (fun q1 => ?_)
        · rw [unq_bad _ _ _ (.inl q1)]; exact jt _ _
        · by_cases q2 : hexC b < 0
          · rw [unq_bad _ _ _ (.inr q2), decide_eq_true q2]; exact jt _ _
          · rw [unq_good _ _ _ (fun hh => hh.elim q1 q2), unqR_cons, decide_eq_false q2]
            have e : (wrap64 (wrap64 (hexC a * 16) + hexC b)) % 256 = hexC a * 16 + hexC b := by
              clear hb hb1 hb2 hb2' hw1 hw2 hw3
              rw [wrap_id (x := hexC a * 16) (by omega) (by omega), wrap_id (by omega) (by omega)]; omega
            apply ev_succ
            simp only [spec_Unquote.j1, if_neg (show ¬ false = true by simp), hw1, hw2, if_pos g2, if_pos g3, if_pos g4, if_pos g5, hb1, hb2', hw3, l1HexOf_eq a ra.1 ra.2, l1HexOf_eq b rb.1 rb.2, Option.bind_some, if_pos g6, e]
            have hd3 : (bytesOf s).drop (i + 3) = r' := hd2
            have hz := ih (i + 3) r' hd3 (by clear hb hb1 hb2 hb2' hw1 hw2 hw3; omega) g7 (acc ++ [hexC a * 16 + hexC b]) (by clear hb hb1 hb2 hb2' hw1 hw2 hw3; rw [List.length_append]; simp; omega)
            exact hz
    · rw [unq_plain _ _ q, unqR_cons]
      exact ih (i + 1) r hd (by omega) (by omega) _ (by simp; omega)
theorem spec_Unquote_ev (s : ByteArray) (hs : s.size ≤ 140737488351232) : Ev (fun k => spec_Unquote.f k s) (unquote s) := spec_Unquote_l0 hs 0 _ rfl [] (by simp)

theorem FnExactUnquote : laws_FnExactUnquote.Pure := by
  intro s hs
  apply Ev.rounds
  unfold laws_FnExactUnquote.f
  refine ev_ite (fun _ => Ev.now _) (fun _ => Ev.bind (spec_Unquote_ev s hs) (Ev.bind (impl_Unquote_ev s hs) ?_))
  simpa using Ev.now true

end Go.Proofs.Ytkjlbkfnhmeoeaa.Pure
