/- The program's Quote answers as the reference's does, for every text; no condition. -/
import Derived.Test.YtiabdcachfpgpaaGFnExactQuotex2
import Derived.Test.YtiabdcachfpgpaaBase
namespace Go.Proofs.Ytiabdcachfpgpaa.Pure
open Go.RowKit Go.Proofs.Ytiabdcachfpgpaa.GFnExactQuote Go.Proofs.Ytiabdcachfpgpaa.Base Go.Proofs.YtiabdcachfpgpaaW.PrintWords Go.Proofs.YtiabdcachfpgpaaW.PrintLast
set_option linter.unusedVariables false
set_option linter.unusedSimpArgs false

/-- byte classes -/
def plainC (c : Int) : Bool := decide (32 ≤ c) && decide (c ≤ 126)
def smallC (c : Int) : Bool := decide (97 ≤ c) && decide (c ≤ 122)
def digitC (c : Int) : Bool := decide (48 ≤ c) && decide (c ≤ 57)
def largeC (c : Int) : Bool := decide (65 ≤ c) && decide (c ≤ 90)

theorem isSmall_eq (c : Int) : impl_isSmall.f c = some (smallC c) := by
  unfold impl_isSmall.f smallC; split <;> simp [*] <;> omega

theorem isLarge_eq (c : Int) : impl_isLarge.f c = some (largeC c) := by
  unfold impl_isLarge.f largeC; split <;> simp [*] <;> omega

theorem isDigit_eq (c : Int) : impl_isDigit.f c = some (digitC c) := by
  unfold impl_isDigit.f digitC; split <;> simp [*] <;> omega

theorem l1In_eq (c a b : Int) : spec_l1In.f c a b = some (decide (a ≤ c) && decide (c ≤ b)) := by
  unfold spec_l1In.f; split <;> simp [*] <;> omega

theorem l1Small_eq (c : Int) (h : wrap64 c = c) : spec_l1Small.f c = some (smallC c) := by
  unfold spec_l1Small.f; rw [h, l1In_eq]; rfl

theorem l1Large_eq (c : Int) (h : wrap64 c = c) : spec_l1Large.f c = some (largeC c) := by
  unfold spec_l1Large.f; rw [h, l1In_eq]; rfl

theorem l1Digit_eq (c : Int) (h : wrap64 c = c) : spec_l1Digit.f c = some (digitC c) := by
  unfold spec_l1Digit.f; rw [h, l1In_eq]; rfl

def freeC (c : Int) : Bool := smallC c || (largeC c || (digitC c || (decide (c = 45) || (decide (c = 46) || (decide (c = 95) || decide (c = 126))))))
def hexD (n : Int) : Int := if n < 10 then 48 + n else 55 + n
def quoC (c : Int) : List Int := if freeC c = true then [c] else [37, hexD (c / 16), hexD (c % 16)]
def quoL (l : List Int) : List Int := l.flatMap quoC
theorem quoC_len (c : Int) : (quoC c).length ≤ 3 := by unfold quoC; split <;> simp
theorem bits15 (c : Int) (h0 : 0 ≤ c) (h1 : c < 256) : Go.bits .and .u8 c 15 = c % 16 := by
  have H : ∀ n : Fin 256, Go.bits .and .u8 (n.val : Int) 15 = (n.val : Int) % 16 := by decide +kernel
  have := H ⟨c.toNat, by omega⟩
  have e : ((c.toNat : Nat) : Int) = c := by omega
  simpa only [e] using this
theorem digits_bt (n : Int) (h0 : 0 ≤ n) (h1 : n < 16) : bt (⟨#[48, 49, 50, 51, 52, 53, 54, 55, 56, 57, 65, 66, 67, 68, 69, 70]⟩ : ByteArray) n = hexD n := by
  have H : ∀ n : Fin 16, bt (⟨#[48, 49, 50, 51, 52, 53, 54, 55, 56, 57, 65, 66, 67, 68, 69, 70]⟩ : ByteArray) (n.val : Int) = hexD (n.val : Int) := by decide +kernel
  have := H ⟨n.toNat, by omega⟩
  have e : ((n.toNat : Nat) : Int) = n := by omega
  simpa only [e] using this
theorem index4 (c : Int) (h0 : 0 ≤ c) (h1 : c < 256) : (Lib.indexByte (⟨#[45, 46, 95, 126]⟩ : ByteArray).data.toList c.toNat.toUInt8 ≥ 0) ↔ (c = 45 ∨ c = 46 ∨ c = 95 ∨ c = 126) := by
  have H : ∀ n : Fin 256, (decide (Lib.indexByte (⟨#[45, 46, 95, 126]⟩ : ByteArray).data.toList n.val.toUInt8 ≥ 0)) = decide ((n.val : Int) = 45 ∨ (n.val : Int) = 46 ∨ (n.val : Int) = 95 ∨ (n.val : Int) = 126) := by decide +kernel
  have := H ⟨c.toNat, by omega⟩
  have e : ((c.toNat : Nat) : Int) = c := by omega
  simp only [e] at this
  exact decide_eq_decide.mp this
theorem impl_Quote_l0 {s : ByteArray} (hs : s.size ≤ 1048576) : ∀ (i : Nat) (x : List Int), x.length ≤ 3 * i → Ev (fun k => impl_Quote.l0 k s x (i : Int)) (strOfNums (x ++ quoL ((bytesOf s).drop i))) := by
  refine str_loop_st s (fun i x k => impl_Quote.l0 k s x (i : Int)) (fun i x r => strOfNums (x ++ quoL r)) (fun i x _ => x.length ≤ 3 * i) ?_ ?_ (by omega)
  · intro i x _ hi
    apply ev_succ; simp only [impl_Quote.l0, if_neg (show ¬ (i : Int) < s.size by omega)]
    simpa [quoL] using Ev.now (strOfNums x)
  · intro i x c r hx h hb hi hw hw1 ih
    have hc := bytesOf_range s c (List.mem_of_mem_drop (by rw [h]; simp : c ∈ (bytesOf s).drop i))
    have fin : ∀ y : List Int, y = quoC c → Ev (fun k => impl_Quote.l0 k s (x ++ y) ((i + 1 : Nat) : Int)) (strOfNums (x ++ quoL (c :: r))) := by
      intro y hy
      have h3 := quoC_len c
      have := ih (x ++ y) (by rw [List.length_append, hy]; omega)
      rw [List.append_assoc] at this
      simpa [quoL, hy] using this
    have g1 : x.length < 140737488355328 := by omega
    have g2 : x.length + (0 + 1 + 1 + 1) < 140737488355328 := by omega
    have d0 : 0 ≤ c / 16 := by omega
    have d1 : c / 16 < 16 := by omega
    have e0 : 0 ≤ c % 16 := by omega
    have e1 : c % 16 < 16 := by omega
    apply ev_succ
    simp only [impl_Quote.l0, if_pos (show (i : Int) < s.size by omega), if_pos (show (0 : Int) ≤ i by omega), hb, hw1, isSmall_eq, isLarge_eq, isDigit_eq, Option.bind_some, if_pos g1, strings_IndexByte.f, index4 c hc.1 hc.2, bits15 c hc.1 hc.2, if_pos d0, if_pos d1, if_pos e0, if_pos e1, digits_bt _ d0 d1, digits_bt _ e0 e1, List.length_cons, List.length_nil]
    refine ev_iteB (fun q => fin _ ?_) (fun q => ev_iteB (fun q0 => fin _ ?_) (fun q0 => ev_iteB (fun q1 => fin _ ?_) (fun q1 => ev_ite (fun q2 => fin _ ?_) (fun q2 => ?_))))
    · simp [quoC, freeC, q]
    · simp [quoC, freeC, q0]
    · simp [quoC, freeC, q1]
    · rcases q2 with rfl | rfl | rfl | rfl <;> rfl
    · simp only [if_pos g2]
      refine fin _ ?_
      have hf : freeC c = false := by
        simp only [freeC, q, q0, q1, Bool.false_or, Bool.or_eq_false_iff, decide_eq_false_iff_not]
        exact ⟨fun e => q2 (.inl e), fun e => q2 (.inr (.inl e)), fun e => q2 (.inr (.inr (.inl e))), fun e => q2 (.inr (.inr (.inr e)))⟩
      simp [quoC, hf]
theorem impl_Quote_ev (s : ByteArray) (hs : s.size ≤ 1048576) : Ev (fun k => impl_Quote.f k s) (strOfNums (quoL (bytesOf s))) := impl_Quote_l0 hs 0 [] (by simp)
theorem l2Free_eq (c : Int) (hw : wrap64 c = c) : spec_l2Free.f c = some (freeC c) := by
  simp only [spec_l2Free.f, l1Small_eq c hw, l1Large_eq c hw, l1Digit_eq c hw, Option.bind_some, freeC]
  cases smallC c <;> cases largeC c <;> cases digitC c <;> simp
  by_cases a : c = 45 <;> by_cases b : c = 46 <;> by_cases d : c = 95 <;> first | (simp [a, b, d]; done) | (simp [a, b, d]; rfl)
theorem l2Digit_eq (n : Int) (h0 : 0 ≤ n) (h1 : n < 16) : spec_l2Digit.f n = some (hexD n) := by
  unfold spec_l2Digit.f hexD
  split
  · rw [wrap_id (by omega) (by omega)]; congr 1; omega
  · rw [wrap_id (x := 65 + n) (by omega) (by omega), wrap_id (by omega) (by omega)]; congr 1; omega
theorem spec_Quote_l0 {s : ByteArray} (hs : s.size ≤ 1048576) : ∀ (i : Nat) (x : List Int), x.length ≤ 3 * i → Ev (fun k => spec_Quote.l0 k s x (i : Int)) (strOfNums (x ++ quoL ((bytesOf s).drop i))) := by
  refine str_loop_st s (fun i x k => spec_Quote.l0 k s x (i : Int)) (fun i x r => strOfNums (x ++ quoL r)) (fun i x _ => x.length ≤ 3 * i) ?_ ?_ (by omega)
  · intro i x _ hi
    apply ev_succ; simp only [spec_Quote.l0, if_neg (show ¬ (i : Int) < s.size by omega)]
    simpa [quoL] using Ev.now (strOfNums x)
  · intro i x c r hx h hb hi hw hw1 ih
    have hc := bytesOf_range s c (List.mem_of_mem_drop (by rw [h]; simp : c ∈ (bytesOf s).drop i))
    have fin : ∀ y : List Int, y = quoC c → Ev (fun k => spec_Quote.l0 k s (x ++ y) ((i + 1 : Nat) : Int)) (strOfNums (x ++ quoL (c :: r))) := by
      intro y hy
      have h3 := quoC_len c
      have := ih (x ++ y) (by rw [List.length_append, hy]; omega)
      rw [List.append_assoc] at this
      simpa [quoL, hy] using this
    have g1 : x.length < 140737488355328 := by omega
    have g2 : x.length + (0 + 1 + 1 + 1) < 140737488355328 := by omega
    have d1 : wrap64 (Int.tdiv c 16) = c / 16 := by rw [Int.tdiv_eq_ediv_of_nonneg hc.1, wrap_id (by omega) (by omega)]
    have d2 : Int.tmod c 16 = c % 16 := Int.tmod_eq_emod_of_nonneg hc.1
    apply ev_succ
    simp only [spec_Quote.l0, if_pos (show (i : Int) < s.size by omega), if_pos (show (0 : Int) ≤ i by omega), hb, hw1, hw, l2Free_eq c hw, Option.bind_some, if_pos g1, d1, d2, l2Digit_eq (c / 16) (by omega) (by omega), l2Digit_eq (c % 16) (by omega) (by omega), List.length_cons, List.length_nil, if_pos g2]
    refine ev_iteB (fun q => fin _ ?_) (fun q => fin _ ?_)
    · simp [quoC, q]
    · simp [quoC, q]
theorem spec_Quote_ev (s : ByteArray) (hs : s.size ≤ 1048576) : Ev (fun k => spec_Quote.f k s) (strOfNums (quoL (bytesOf s))) := spec_Quote_l0 hs 0 [] (by simp)

theorem FnExactQuote : laws_FnExactQuote.Pure := by
  intro s hs
  apply Ev.rounds
  unfold laws_FnExactQuote.f
  exact ev_ite (fun _ => Ev.now _) (fun q => exact_str (spec_Quote_ev s (by omega)) (impl_Quote_ev s (by omega)) rfl)

end Go.Proofs.Ytiabdcachfpgpaa.Pure
