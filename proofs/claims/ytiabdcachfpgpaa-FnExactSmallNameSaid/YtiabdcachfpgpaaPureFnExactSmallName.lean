/- The program's SmallName answers as the reference's does, for every text; no condition. -/
import Derived.Test.YtiabdcachfpgpaaPFnExactSmallNamex1
import Derived.Test.YtiabdcachfpgpaaBase
namespace Go.Proofs.Ytiabdcachfpgpaa.Pure
open Go.RowKit Go.Proofs.Ytiabdcachfpgpaa.PFnExactSmallName Go.Proofs.Ytiabdcachfpgpaa.Base Go.Proofs.YtiabdcachfpgpaaW.PrintWords Go.Proofs.YtiabdcachfpgpaaW.PrintLast
set_option linter.unusedVariables false
set_option linter.unusedSimpArgs false

/-- byte classes -/
def plainC (c : Int) : Bool := decide (32 ≤ c) && decide (c ≤ 126)
def smallC (c : Int) : Bool := decide (97 ≤ c) && decide (c ≤ 122)
def digitC (c : Int) : Bool := decide (48 ≤ c) && decide (c ≤ 57)
def largeC (c : Int) : Bool := decide (65 ≤ c) && decide (c ≤ 90)

theorem in_eq (c a b : Int) : impl_in.f c a b = some (decide (a ≤ c) && decide (c ≤ b)) := by
  unfold impl_in.f; split <;> simp [*] <;> omega

theorem isSmall_eq (c : Int) : impl_isSmall.f c = some (smallC c) := by
  unfold impl_isSmall.f smallC; split <;> simp [*] <;> omega

theorem isDigit_eq (c : Int) : impl_isDigit.f c = some (digitC c) := by
  unfold impl_isDigit.f digitC; split <;> simp [*] <;> omega

theorem l1In_eq (c a b : Int) : spec_l1In.f c a b = some (decide (a ≤ c) && decide (c ≤ b)) := by
  unfold spec_l1In.f; split <;> simp [*] <;> omega

theorem l1Small_eq (c : Int) (h : wrap64 c = c) : spec_l1Small.f c = some (smallC c) := by
  unfold spec_l1Small.f; rw [h, l1In_eq]; rfl

theorem l1Digit_eq (c : Int) (h : wrap64 c = c) : spec_l1Digit.f c = some (digitC c) := by
  unfold spec_l1Digit.f; rw [h, l1In_eq]; rfl

/-- a small name -/
def snC (first : Bool) (c : Int) : Bool := smallC c || (!first && (digitC c || decide (c = 45)))
def snB : Nat → List Int → Bool
  | _, [] => true
  | i, c :: r => snC (i == 0) c && snB (i + 1) r
def lenB (s : ByteArray) (a b : Int) : Bool := decide (a ≤ (s.size : Int)) && decide ((s.size : Int) ≤ b)
def smallName (s : ByteArray) : Bool := snB 0 (bytesOf s) && lenB s 1 20
theorem impl_SmallName_ev (s : ByteArray) (hs : s.size ≤ 140737488351232) : Ev (fun k => impl_SmallName.f k s) (smallName s) := by
  refine str_loop_st s (fun i (_ : Unit) k => impl_SmallName.l0 k s (i : Int)) (fun i _ r => snB i r && lenB s 1 20) (fun _ _ _ => True) ?_ ?_ hs 0 () trivial
  · intro i _ _ hi
    apply ev_succ; simp only [impl_SmallName.l0, if_neg (show ¬ (i : Int) < s.size by omega), in_eq, Option.bind_some]; exact Ev.now _
  · intro i _ c r _ h hb hi hw hw1 ih
    replace ih := ih () trivial
    apply ev_succ
    simp only [impl_SmallName.l0, if_pos (show (i : Int) < s.size by omega), if_pos (show (0 : Int) ≤ i by omega), hb, isSmall_eq, isDigit_eq, Option.bind_some, hw1]
    refine ev_iteB (fun q => ?_) (fun q => ev_ite (fun q0 => ?_) (fun q0 => ?_))
    · simpa [snB, snC, q] using ih
    · have : i = 0 := by omega
      subst this; simpa [snB, snC, q] using Ev.now false
    · have hi0 : (i == 0) = false := by simp; omega
      refine ev_iteB (fun q1 => ?_) (fun q1 => ev_ite (fun q2 => ?_) (fun q2 => ?_))
      · simpa [snB, snC, q, hi0, q1] using ih
      · subst q2; simpa [snB, snC, q, hi0, q1] using ih
      · simpa [snB, snC, q, hi0, q1, q2] using Ev.now false
theorem spec_SmallName_ev (s : ByteArray) (hs : s.size ≤ 140737488351232) : Ev (fun k => spec_SmallName.f k s) (smallName s) := by
  refine str_loop_st s (fun i (_ : Unit) k => spec_SmallName.l0 k s (i : Int)) (fun i _ r => snB i r && lenB s 1 20) (fun _ _ _ => True) ?_ ?_ hs 0 () trivial
  · intro i _ _ hi
    apply ev_succ; simp only [spec_SmallName.l0, if_neg (show ¬ (i : Int) < s.size by omega), l1In_eq, Option.bind_some]; exact Ev.now _
  · intro i _ c r _ h hb hi hw hw1 ih
    replace ih := ih () trivial
    apply ev_succ
    simp only [spec_SmallName.l0, if_pos (show (i : Int) < s.size by omega), if_pos (show (0 : Int) ≤ i by omega), hb, l1Small_eq c hw, l1Digit_eq c hw, Option.bind_some, hw1]
    refine ev_iteB (fun q => ?_) (fun q => ev_ite (fun q0 => ?_) (fun q0 => ?_))
    · simpa [snB, snC, q] using ih
    · have : i = 0 := by omega
      subst this; simpa [snB, snC, q] using Ev.now false
    · have hi0 : (i == 0) = false := by simp; omega
      refine ev_iteB (fun q1 => ?_) (fun q1 => ev_ite (fun q2 => ?_) (fun q2 => ?_))
      · simpa [snB, snC, q, hi0, q1] using ih
      · subst q2; simpa [snB, snC, q, hi0, q1] using ih
      · simpa [snB, snC, q, hi0, q1, q2] using Ev.now false

theorem FnExactSmallName : laws_FnExactSmallName.Pure := by
  intro s hs
  apply Ev.rounds
  unfold laws_FnExactSmallName.f
  exact ev_ite (fun _ => Ev.now _) (fun _ => exact_bool (spec_SmallName_ev s hs) (impl_SmallName_ev s hs) rfl)

end Go.Proofs.Ytiabdcachfpgpaa.Pure
