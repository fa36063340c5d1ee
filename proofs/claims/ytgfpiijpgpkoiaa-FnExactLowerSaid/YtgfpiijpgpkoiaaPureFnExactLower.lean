/- The program's Lower answers as the reference's does, for every text; no condition. -/
import Derived.Test.YtgfpiijpgpkoiaaGFnExactLowerx1
import Derived.Test.YtgfpiijpgpkoiaaBase
namespace Go.Proofs.Ytgfpiijpgpkoiaa.Pure
open Go.RowKit Go.Proofs.Ytgfpiijpgpkoiaa.GFnExactLower Go.Proofs.Ytgfpiijpgpkoiaa.Base Go.Proofs.YtgfpiijpgpkoiaaW.PrintWords Go.Proofs.YtgfpiijpgpkoiaaW.PrintLast
set_option linter.unusedVariables false
set_option linter.unusedSimpArgs false

/-- byte classes -/
def plainC (c : Int) : Bool := decide (32 ≤ c) && decide (c ≤ 126)
def smallC (c : Int) : Bool := decide (97 ≤ c) && decide (c ≤ 122)
def digitC (c : Int) : Bool := decide (48 ≤ c) && decide (c ≤ 57)
def largeC (c : Int) : Bool := decide (65 ≤ c) && decide (c ≤ 90)

theorem l1In_eq (c a b : Int) : spec_l1In.f c a b = some (decide (a ≤ c) && decide (c ≤ b)) := by
  unfold spec_l1In.f; split <;> simp [*] <;> omega

theorem l1Large_eq (c : Int) (h : wrap64 c = c) : spec_l1Large.f c = some (largeC c) := by
  unfold spec_l1Large.f; rw [h, l1In_eq]; rfl

theorem isLarge_eq (c : Int) : impl_isLarge.f c = some (largeC c) := by
  unfold impl_isLarge.f largeC; split <;> simp [*] <;> omega

/-- a text in small letters, byte by byte -/
def lowC (c : Int) : Int := if largeC c = true then c + 32 else c
def lowL (l : List Int) : List Int := l.map lowC
theorem lowC_range {c : Int} (h : 0 ≤ c ∧ c < 256) : 0 ≤ lowC c ∧ lowC c < 256 := by
  unfold lowC largeC
  split
  · rename_i q
    simp at q
    omega
  · exact h
theorem lowC_mod {c : Int} (h : 0 ≤ c ∧ c < 256) (q : largeC c = true) : (c + 32) % 256 = lowC c := by
  have := lowC_range h
  unfold lowC at this ⊢
  rw [if_pos q] at this ⊢
  omega
theorem lowL_range {l : List Int} (h : ∀ x ∈ l, 0 ≤ x ∧ x < 256) : ∀ x ∈ lowL l, 0 ≤ x ∧ x < 256 := by
  intro x hx
  obtain ⟨c, hc, rfl⟩ := List.mem_map.1 hx
  exact lowC_range (h c hc)
def lower (s : ByteArray) : ByteArray := strOfNums (lowL (bytesOf s))
theorem spec_Lower_ev (s : ByteArray) (hs : s.size ≤ 1048576) : Ev (fun k => spec_Lower.f k s) (lower s) := by
  have := str_loop_st s (fun i (x : List Int) k => spec_Lower.l0 k s x (i : Int)) (fun i x r => strOfNums (x ++ lowL r)) (fun i x _ => x.length ≤ i) ?_ ?_ (by omega) 0 [] (by simp)
  · have h2 : Ev (fun k => spec_Lower.l0 k s [] 0) (lower s) := by simpa [lower] using this
    exact h2
  · intro i x _ hi
    apply ev_succ; simp only [spec_Lower.l0, if_neg (show ¬ (i : Int) < s.size by omega)]
    simpa [lowL] using Ev.now _
  · intro i x c r hx h hb hi hw hw1 ih
    have hc := bytesOf_range s c (List.mem_of_mem_drop (by rw [h]; simp))
    apply ev_succ
    simp only [spec_Lower.l0, if_pos (show (i : Int) < s.size by omega), if_pos (show (0 : Int) ≤ i by omega), hb, l1Large_eq c hw, Option.bind_some, hw1, if_pos (show x.length < 140737488355328 by omega)]
    have fin := ih (x ++ [lowC c]) (by simp; omega)
    simp only [List.append_assoc, List.cons_append, List.nil_append] at fin
    refine ev_ite (fun q => ?_) (fun q => ?_)
    · rw [lowC_mod hc q]; exact fin
    · rw [show c = lowC c by unfold lowC; rw [if_neg q]]
      have : lowC (lowC c) = lowC c := by rw [show lowC c = c by unfold lowC; rw [if_neg q]]; unfold lowC; rw [if_neg q]
      simpa [lowL, this] using fin
theorem impl_Lower_l0 (l : List Int) (hl : l.length ≤ 1048576) (hr : ∀ x ∈ l, 0 ≤ x ∧ x < 256) : ∀ n i, l.length - i = n → i ≤ l.length → Ev (fun k => impl_Lower.l0 k ((lowL l).take i ++ l.drop i) (l.length : Int) (i : Int)) (strOfNums (lowL l)) := by
  intro n
  induction n with
  | zero =>
    intro i hn hi
    have h0 : i = l.length := by omega
    subst h0
    apply ev_succ; simp only [impl_Lower.l0, if_neg (show ¬ ((l.length : Nat) : Int) < (l.length : Int) by omega)]
    simpa [lowL, List.take_of_length_le] using Ev.now _
  | succ n ih =>
    intro i hn hi
    have hlt : i < l.length := by omega
    have hll : (lowL l).length = l.length := by simp [lowL]
    have htl : ((lowL l).take i).length = i := by rw [List.length_take]; omega
    have hlen : ((lowL l).take i ++ l.drop i).length = l.length := by rw [List.length_append, htl, List.length_drop]; omega
    have hw1 : wrap64 ((i : Int) + 1) = ((i + 1 : Nat) : Int) := by rw [wrap_id (by omega) (by omega)]; rfl
    have hrd : rd ((lowL l).take i ++ l.drop i) (i : Int) = l[i] := by
      rw [rd, Int.toNat_natCast, List.getD_eq_getElem?_getD, List.getElem?_append_right (by omega), htl, List.getElem?_drop]
      simp [hlt]
    have hc := hr l[i] (List.getElem_mem _)
    have step : (lowL l).take (i + 1) ++ l.drop (i + 1) = (lowL l).take i ++ lowC l[i] :: l.drop (i + 1) := by
      rw [List.take_succ_eq_append_getElem (by omega)]
      simp [lowL]
    have hd : l.drop i = l[i] :: l.drop (i + 1) := List.drop_eq_getElem_cons hlt
    have ih' := ih (i + 1) (by omega) (by omega)
    rw [step] at ih'
    apply ev_succ
    simp only [impl_Lower.l0, if_pos (show (i : Int) < (l.length : Int) by omega), if_pos (show (0 : Int) ≤ i by omega), hlen, hrd, isLarge_eq, Option.bind_some, hw1]
    refine ev_ite (fun q => ?_) (fun q => ?_)
    · rw [Int.toNat_natCast, lowC_mod hc q, List.set_append_right _ _ (by omega), htl, Nat.sub_self, hd, List.set_cons_zero]
      exact ih'
    · rw [show lowC l[i] = l[i] by unfold lowC; rw [if_neg q], ← hd] at ih'
      exact ih'
theorem impl_Lower_ev (s : ByteArray) (hs : s.size ≤ 1048576) : Ev (fun k => impl_Lower.f k s) (lower s) := by
  unfold impl_Lower.f
  simp only [if_pos (show s.size < 140737488355328 by omega), Option.bind_some]
  have := impl_Lower_l0 (bytesOf s) (by rw [bytesOf_length]; exact hs) (bytesOf_range s) _ 0 rfl (Nat.zero_le _)
  simpa [lower] using this

theorem FnExactLower : laws_FnExactLower.Pure := by
  intro s hs
  apply Ev.rounds
  unfold laws_FnExactLower.f
  exact ev_ite (fun _ => Ev.now _) (fun q => exact_str (spec_Lower_ev s (by omega)) (impl_Lower_ev s (by omega)) rfl)

end Go.Proofs.Ytgfpiijpgpkoiaa.Pure
