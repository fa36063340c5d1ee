/- The program's Escape answers as the reference's does, for every text; no condition. -/
import Derived.Test.YtiabdcachfpgpaaPFnExactEscapex1
import Derived.Test.YtiabdcachfpgpaaBase
namespace Go.Proofs.Ytiabdcachfpgpaa.Pure
open Go.RowKit Go.Proofs.Ytiabdcachfpgpaa.PFnExactEscape Go.Proofs.Ytiabdcachfpgpaa.Base Go.Proofs.YtiabdcachfpgpaaW.PrintWords Go.Proofs.YtiabdcachfpgpaaW.PrintLast
set_option linter.unusedVariables false
set_option linter.unusedSimpArgs false

/-- byte classes -/
def plainC (c : Int) : Bool := decide (32 ≤ c) && decide (c ≤ 126)
def smallC (c : Int) : Bool := decide (97 ≤ c) && decide (c ≤ 122)
def digitC (c : Int) : Bool := decide (48 ≤ c) && decide (c ≤ 57)
def largeC (c : Int) : Bool := decide (65 ≤ c) && decide (c ≤ 90)

/-- the marks' names -/
def escC (c : Int) : List Int := if c = 38 then [38, 97, 109, 112, 59] else if c = 60 then [38, 108, 116, 59] else if c = 62 then [38, 103, 116, 59] else if c = 34 then [38, 113, 117, 111, 116, 59] else [c]
def escL (l : List Int) : List Int := l.flatMap escC
theorem escC_len (c : Int) : (escC c).length ≤ 6 := by
  unfold escC
  repeat' split
  all_goals simp
theorem impl_Escape_l0 {s : ByteArray} (hs : s.size ≤ 140737488351232) : ∀ (i : Nat) (x : ByteArray), x.size ≤ 6 * i → Ev (fun k => impl_Escape.l0 k s x (i : Int)) (strOfNums (bytesOf x ++ escL ((bytesOf s).drop i))) := by
  refine str_loop_st s (fun i x k => impl_Escape.l0 k s x (i : Int)) (fun i x r => strOfNums (bytesOf x ++ escL r)) (fun i x _ => x.size ≤ 6 * i) ?_ ?_ hs
  · intro i x _ hi
    apply ev_succ; simp only [impl_Escape.l0, if_neg (show ¬ (i : Int) < s.size by omega)]
    simpa [escL, strOfNums_bytesOf] using Ev.now x
  · intro i x c r hx h hb hi hw hw1 ih
    apply ev_succ
    have e1 := extract_one h
    have e1s : (s.extract i (i + 1)).size = 1 := by rw [size_len, e1]; rfl
    simp only [impl_Escape.l0, if_pos (show (i : Int) < s.size by omega), if_pos (show (0 : Int) ≤ i by omega), hb, hw1, if_pos (show x.size + 5 ≤ 9223372036854775807 by omega), if_pos (show x.size + 4 ≤ 9223372036854775807 by omega), if_pos (show x.size + 6 ≤ 9223372036854775807 by omega),
      if_pos (show (i : Int) ≤ ((i + 1 : Nat) : Int) by omega), if_pos (show ((i + 1 : Nat) : Int) ≤ s.size by omega), Int.toNat_natCast, e1s, if_pos (show x.size + 1 ≤ 9223372036854775807 by omega)]
    have fin : ∀ y : ByteArray, bytesOf y = escC c → Ev (fun k => impl_Escape.l0 k s (x ++ y) ((i + 1 : Nat) : Int)) (strOfNums (bytesOf x ++ escL (c :: r))) := by
      intro y hy
      have h6 := escC_len c
      have := ih (x ++ y) (by rw [ByteArray.size_append, size_len y, hy]; omega)
      rw [cat_ev hy] at this
      simpa [escL] using this
    refine ev_ite (fun h => fin _ ?_) (fun h => ev_ite (fun h0 => fin _ ?_) (fun h0 => ev_ite (fun h1 => fin _ ?_) (fun h1 => ev_ite (fun h2 => fin _ ?_) (fun h2 => fin _ ?_))))
    · simp [escC, h]; rfl
    · simp [escC, h0]; rfl
    · simp [escC, h1]; rfl
    · simp [escC, h2]; rfl
    · simpa [escC, h, h0, h1, h2] using e1
theorem impl_Escape_ev (s : ByteArray) (hs : s.size ≤ 140737488351232) : Ev (fun k => impl_Escape.f k s) (strOfNums (escL (bytesOf s))) :=
  impl_Escape_l0 hs 0 (⟨#[]⟩ : ByteArray) (Nat.le_refl 0)
theorem Escape_same : ∀ k (s x : ByteArray) (i : Int), spec_Escape.l0 k s x i = impl_Escape.l0 k s x i
  | 0, _, _, _ => rfl
  | k + 1, s, x, i => by simp only [spec_Escape.l0, impl_Escape.l0, Escape_same k]
theorem spec_Escape_ev (s : ByteArray) (hs : s.size ≤ 140737488351232) : Ev (fun k => spec_Escape.f k s) (strOfNums (escL (bytesOf s))) :=
  Ev.congr (fun k => Escape_same k s _ _) (impl_Escape_ev s hs)

theorem FnExactEscape : laws_FnExactEscape.Pure := by
  intro s hs
  apply Ev.rounds
  unfold laws_FnExactEscape.f
  exact ev_ite (fun _ => Ev.now _) (fun _ => exact_str (spec_Escape_ev s hs) (impl_Escape_ev s hs) rfl)

end Go.Proofs.Ytiabdcachfpgpaa.Pure
