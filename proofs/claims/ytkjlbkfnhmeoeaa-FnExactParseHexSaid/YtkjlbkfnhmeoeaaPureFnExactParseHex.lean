/- The program's ParseHex answers as the reference's does, for every text; no condition. -/
import Derived.Test.YtkjlbkfnhmeoeaaGFnExactParseHexx1
import Derived.Test.YtkjlbkfnhmeoeaaBase
namespace Go.Proofs.Ytkjlbkfnhmeoeaa.Pure
open Go.RowKit Go.Proofs.Ytkjlbkfnhmeoeaa.GFnExactParseHex Go.Proofs.Ytkjlbkfnhmeoeaa.Base Go.Proofs.YtkjlbkfnhmeoeaaW.PrintWords Go.Proofs.YtkjlbkfnhmeoeaaW.PrintLast
set_option linter.unusedVariables false
set_option linter.unusedSimpArgs false

/-- byte classes -/
def plainC (c : Int) : Bool := decide (32 ≤ c) && decide (c ≤ 126)
def smallC (c : Int) : Bool := decide (97 ≤ c) && decide (c ≤ 122)
def digitC (c : Int) : Bool := decide (48 ≤ c) && decide (c ≤ 57)
def largeC (c : Int) : Bool := decide (65 ≤ c) && decide (c ≤ 90)

theorem l1In_eq (c a b : Int) : spec_l1In.f c a b = some (decide (a ≤ c) && decide (c ≤ b)) := by
  unfold spec_l1In.f; split <;> simp [*] <;> omega

theorem l1Digit_eq (c : Int) (h : wrap64 c = c) : spec_l1Digit.f c = some (digitC c) := by
  unfold spec_l1Digit.f; rw [h, l1In_eq]; rfl

theorem isDigit_eq (c : Int) : impl_isDigit.f c = some (digitC c) := by
  unfold impl_isDigit.f digitC; split <;> simp [*] <;> omega

/-- a digit's worth to the base 16, or -1 -/
def hexC (c : Int) : Int := if digitC c = true then c - 48 else if 97 ≤ c ∧ c ≤ 102 then c - 87 else if 65 ≤ c ∧ c ≤ 70 then c - 55 else -1
theorem hexC_range (c : Int) : -1 ≤ hexC c ∧ hexC c < 16 := by
  unfold hexC digitC
  split
  · rename_i h; simp at h; omega
  · split
    · omega
    · split <;> omega
theorem digitOf_ev (c : Int) (h0 : 0 ≤ c) (h1 : c < 256) : Ev (fun k => impl_digitOf.f k c) (hexC c) := by
  have H : ∀ k, impl_digitOf.f (k + 1) c = some (hexC c) := by
    intro k
    simp only [impl_digitOf.f, isDigit_eq, Option.bind_some, impl_digitOf.j0, hexC]
    by_cases a1 : 48 ≤ c <;> by_cases a2 : c ≤ 57 <;> by_cases a3 : 97 ≤ c <;> by_cases a4 : c ≤ 102 <;> by_cases a5 : 65 ≤ c <;> by_cases a6 : c ≤ 70
    all_goals first | (exfalso; omega) | (simp [digitC, a1, a2, a3, a4, a5, a6, ge_iff_le]; done) | (simp [digitC, a1, a2, a3, a4, a5, a6, ge_iff_le]; omega)
  exact Ev.step H (Ev.now _)
theorem l1HexOf_eq (c : Int) (h0 : 0 ≤ c) (h1 : c < 256) : spec_l1HexOf.f c = some (hexC c) := by
  have hw : wrap64 c = c := wrap_id (by omega) (by omega)
  simp only [spec_l1HexOf.f, l1Digit_eq c hw, Option.bind_some, hw, l1In_eq, hexC]
  by_cases q : digitC c = true
  · rw [if_pos q, if_pos q, wrap_id (by omega) (by omega)]
  · rw [if_neg q, if_neg q]
    by_cases q1 : 97 ≤ c ∧ c ≤ 102
    · rw [if_pos (by simpa using q1), if_pos q1, wrap_id (x := c - 97) (by omega) (by omega), wrap_id (by omega) (by omega)]; congr 1; omega
    · rw [if_neg (by simpa using q1), if_neg q1]
      by_cases q2 : 65 ≤ c ∧ c ≤ 70
      · rw [if_pos (by simpa using q2), if_pos q2, wrap_id (x := c - 65) (by omega) (by omega), wrap_id (by omega) (by omega)]; congr 1; omega
      · rw [if_neg (by simpa using q2), if_neg q2]

def phL : Nat → Int → List Int → Int × Bool
  | i, n, [] => (n, decide (i ≠ 0))
  | i, n, c :: r => if hexC c < 0 then (0, false) else if i ≥ 4 then (0, false) else phL (i + 1) (n * 16 + hexC c) r
def parseHex (s : ByteArray) : Int × Bool := phL 0 0 (bytesOf s)
theorem pow16 {i : Nat} (h : i ≤ 4) : (16 : Int) ^ i ≤ 65536 := by
  rcases i with _ | _ | _ | _ | _ | i
  all_goals first | omega | decide
theorem impl_ParseHex_ev (s : ByteArray) (hs : s.size ≤ 140737488351232) : Ev (fun k => impl_ParseHex.f k s) (parseHex s) := by
  refine str_loop_st s (fun i n k => impl_ParseHex.l0 k s n (i : Int)) phL (fun i n r => i ≤ 4 ∧ 0 ≤ n ∧ n < 16 ^ i ∧ i + r.length = s.size) ?_ ?_ hs 0 0 ⟨by omega, by omega, by simp, by simp [bytesOf_length]⟩
  · intro i n ⟨_, _, _, hl⟩ hi
    apply ev_succ; simp only [impl_ParseHex.l0, if_neg (show ¬ (i : Int) < s.size by omega)]
    have : (s.toList != ([] : List UInt8)) = decide (i ≠ 0) := by
      rw [Lib.toList_data]
      have h2 := data_length s
      simp at hl
      rw [Bool.eq_iff_iff]
      simp only [bne_iff_ne, ne_eq, decide_eq_true_eq]
      rw [← List.length_eq_zero_iff, h2, hl]
    rw [this]; exact Ev.now _
  · intro i n c r ⟨h4, h0, hn, hl⟩ h hb hi hw hw1 ih
    have hc := bytesOf_range s c (List.mem_of_mem_drop (by rw [h]; simp : c ∈ (bytesOf s).drop i))
    have hd := hexC_range c
    have h16 := pow16 h4
    apply ev_succ
    simp only [impl_ParseHex.l0, if_pos (show (i : Int) < s.size by omega), if_pos (show (0 : Int) ≤ i by omega), hb, hw1]
    refine Ev.bind (digitOf_ev c hc.1 hc.2) (ev_ite (fun q => ?_) (fun q => ev_ite (fun q1 => ?_) (fun q1 => ?_)))
    · simpa [phL, q] using Ev.now (0, false)
    · have : i ≥ 4 := by omega
      simpa [phL, q, this] using Ev.now (0, false)
    · have h5 : ¬ i ≥ 4 := by omega
      rw [wrap_id (x := 16 * n) (by omega) (by omega), wrap_id (by omega) (by omega)]
      have := ih (n * 16 + hexC c) ⟨by omega, by omega, by rw [Int.pow_succ]; omega, by simp at hl ⊢; omega⟩
      simp only [phL, if_neg q, if_neg h5]
      rw [show 16 * n + hexC c = n * 16 + hexC c by omega]; exact this
theorem spec_ParseHex_ev (s : ByteArray) (hs : s.size ≤ 140737488351232) : Ev (fun k => spec_ParseHex.f k s) (parseHex s) := by
  refine str_loop_st s (fun i n k => spec_ParseHex.l0 k s n (i : Int)) phL (fun i n r => i ≤ 4 ∧ 0 ≤ n ∧ n < 16 ^ i ∧ i + r.length = s.size) ?_ ?_ hs 0 0 ⟨by omega, by omega, by simp, by simp [bytesOf_length]⟩
  · intro i n ⟨h4, h0, hn, hl⟩ hi
    simp at hl
    apply ev_succ; simp only [spec_ParseHex.l0, if_neg (show ¬ (i : Int) < s.size by omega)]
    apply ev_succ; simp only [spec_ParseHex.j1, if_neg (show ¬ false = true by simp), l1In_eq, Option.bind_some, phL]
    by_cases q : i = 0
    · subst q
      have h1 : s.size = 0 := by omega
      have h2 : n = 0 := by simp at hn; omega
      subst h2
      simpa [h1] using Ev.now ((0 : Int), false)
    · simp only [decide_eq_true (show (1 : Int) ≤ s.size by omega), decide_eq_true (show (s.size : Int) ≤ 4 by omega), Bool.and_self, if_true]
      simpa [q] using Ev.now (n, true)
  · intro i n c r ⟨h4, h0, hn, hl⟩ h hb hi hw hw1 ih
    have hc := bytesOf_range s c (List.mem_of_mem_drop (by rw [h]; simp : c ∈ (bytesOf s).drop i))
    have hd := hexC_range c
    have h16 := pow16 h4
    apply ev_succ
    simp only [spec_ParseHex.l0, if_pos (show (i : Int) < s.size by omega)]
    apply ev_succ
    simp only [spec_ParseHex.j1, decide_eq_true (show (i : Int) < 5 by omega), if_true, if_pos (show (i : Int) < s.size by omega), if_pos (show (0 : Int) ≤ i by omega), hb, hw1, l1HexOf_eq c hc.1 hc.2, Option.bind_some]
    refine ev_ite (fun q => ?_) (fun q => ?_)
    · simpa [phL, q] using Ev.now ((0 : Int), false)
    · rw [wrap_id (x := n * 16) (by omega) (by omega), wrap_id (by omega) (by omega)]
      by_cases q1 : i ≥ 4
      · simp only [phL, if_neg q, if_pos q1]
        have e4 : i = 4 := by omega
        subst e4
        apply ev_succ
        simp at hl
        have h5 : (s.size : Int) ≥ 5 := by omega
        by_cases q2 : ((4 + 1 : Nat) : Int) < s.size
        · simp only [spec_ParseHex.l0, if_pos q2]
          apply ev_succ
          simp only [spec_ParseHex.j1, decide_eq_false (show ¬ ((4 + 1 : Nat) : Int) < 5 by decide), if_neg (show ¬ false = true by simp), l1In_eq, Option.bind_some]
          simpa [decide_eq_false (show ¬ (s.size : Int) ≤ 4 by omega)] using Ev.now ((0 : Int), false)
        · simp only [spec_ParseHex.l0, if_neg q2]
          apply ev_succ
          simp only [spec_ParseHex.j1, if_neg (show ¬ false = true by simp), l1In_eq, Option.bind_some]
          simpa [decide_eq_false (show ¬ (s.size : Int) ≤ 4 by omega)] using Ev.now ((0 : Int), false)
      · simp only [phL, if_neg q, if_neg q1]
        exact ih (n * 16 + hexC c) ⟨by omega, by omega, by rw [Int.pow_succ]; omega, by simp at hl ⊢; omega⟩

theorem FnExactParseHex : laws_FnExactParseHex.Pure := by
  intro s hs
  apply Ev.rounds
  unfold laws_FnExactParseHex.f
  refine ev_ite (fun _ => Ev.now _) (fun _ => Ev.bind (spec_ParseHex_ev s hs) (Ev.bind (impl_ParseHex_ev s hs) ?_))
  simpa using Ev.now true

end Go.Proofs.Ytkjlbkfnhmeoeaa.Pure
