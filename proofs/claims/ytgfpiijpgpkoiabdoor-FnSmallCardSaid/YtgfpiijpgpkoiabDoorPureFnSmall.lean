/- Digits come back of numbers, to both bases, what is trimmed has no blanks at its ends, and small letters stay, for all codes; no condition. -/
import Derived.Test.YtgfpiijpgpkoiabDoorGFnSmallx4
import Derived.Test.YtgfpiijpgpkoiabDoorBase
import Derived.Lib.ItoaNum
import Derived.Lib.AtoiTie
import Derived.Lib.SlTrimSet
namespace Go.Proofs.YtgfpiijpgpkoiabDoor.Pure
open Go.RowKit Go.Proofs.YtgfpiijpgpkoiabDoor.GFnSmall Go.Proofs.YtgfpiijpgpkoiabDoor.Base Go.Proofs.YtgfpiijpgpkoiabDoorW.PrintWords Go.Proofs.YtgfpiijpgpkoiabDoorW.PrintLast
set_option linter.unusedVariables false
set_option linter.unusedSimpArgs false

/-! what is drawn: something, with what is known of it -/
theorem bits255 (x : Int) : 0 ≤ Go.bits .and .i64 x 255 ∧ Go.bits .and .i64 x 255 ≤ 255 := by
  have h2 : (BitVec.ofInt 64 x).toNat &&& 255 ≤ 255 := Nat.and_le_right
  have h : Go.bits .and .i64 x 255 = IntKind.i64.wrap (((BitVec.ofInt 64 x &&& BitVec.ofInt 64 255).toNat : Nat) : Int) := rfl
  have e : (BitVec.ofInt 64 255).toNat = 255 := by decide
  rw [h, BitVec.toNat_and, e, IntKind.wrap_i64]
  omega
def Dr {α : Type} (f : List Int → Int → Int → Option (α × Int × Int)) (P : α → Prop) : Prop :=
  ∀ (b : List Int) (i h : Int), b.length ≤ 1048576 → 0 ≤ i → i ≤ b.length → ∃ x i' h', f b i h = some (x, i', h') ∧ P x ∧ 0 ≤ i' ∧ i' ≤ b.length
def DrE {α : Type} (f : Nat → List Int → Int → Int → Option (α × Int × Int)) (P : α → Prop) : Prop :=
  ∀ (b : List Int) (i h : Int), b.length ≤ 1048576 → 0 ≤ i → i ≤ b.length → ∃ x i' h', Ev (fun k => f k b i h) (x, i', h') ∧ P x ∧ 0 ≤ i' ∧ i' ≤ b.length
theorem l1New_ev (l : List Int) (hl : l.length ≤ 1048576) : ∃ h, Ev (fun k => spec_l1New.f k l) (l, (0 : Int), h) := by
  have key : ∀ n i (x : Int), l.length - i = n → ∃ h, Ev (fun k => spec_l1New.l0 k l x (i : Int)) (l, (0 : Int), h) := by
    intro n
    induction n with
    | zero =>
      intro i x hn
      refine ⟨x, ?_⟩
      apply ev_succ; simp only [spec_l1New.l0, if_neg (show ¬ (i : Int) < (l.length : Int) by omega)]; exact Ev.now _
    | succ n ih =>
      intro i x hn
      by_cases h4 : (i : Int) < 4000
      · obtain ⟨h, hh⟩ := ih (i + 1) (Go.bits .and .i64 (wrap64 ((wrap64 ((wrap64 (x * 137)) + (wrap64 (rd l i)))) + 11)) 1073741823) (by omega)
        refine ⟨h, ?_⟩
        apply ev_succ
        simp only [spec_l1New.l0, if_pos (show (i : Int) < (l.length : Int) by omega), if_pos h4, if_pos (show (0 : Int) ≤ (i : Int) by omega), wrap_id (x := (i : Int) + 1) (by omega) (by omega)]
        exact hh
      · refine ⟨x, ?_⟩
        apply ev_succ; simp only [spec_l1New.l0, if_pos (show (i : Int) < (l.length : Int) by omega), if_neg h4]; exact Ev.now _
  exact key _ 0 _ rfl
theorem l1Byte_dr : Dr spec_l1Byte.f (fun x => 0 ≤ x ∧ x ≤ 255) := by
  intro b i h hb h0 h1
  unfold spec_l1Byte.f
  by_cases q : i < (b.length : Int)
  · rw [if_pos q, if_pos h0]
    exact ⟨_, _, _, rfl, bits255 _, by rw [wrap_id (by omega) (by omega)]; omega, by rw [wrap_id (by omega) (by omega)]; omega⟩
  · rw [if_neg q]
    exact ⟨_, _, _, rfl, bits255 _, h0, h1⟩
theorem tmod_range (x n : Int) (hx : 0 ≤ x) (hn : 0 < n) : 0 ≤ Int.tmod x n ∧ Int.tmod x n < n := by
  rw [Int.tmod_eq_emod_of_nonneg hx]
  exact ⟨Int.emod_nonneg _ (by omega), Int.emod_lt_of_pos _ hn⟩
theorem l1Below_dr (n : Int) : Dr (fun b i h => spec_l1Below.f b i h n) (fun x => 0 ≤ x ∧ (0 < n → x < n)) := by
  intro b i h hb h0 h1
  show ∃ x i' h', spec_l1Below.f b i h n = some (x, i', h') ∧ _
  unfold spec_l1Below.f
  by_cases q : n ≤ 0
  · rw [if_pos q]
    exact ⟨_, _, _, rfl, ⟨by omega, by omega⟩, h0, h1⟩
  · rw [if_neg q]
    obtain ⟨x, i1, e1, f1, p1, a1, b1⟩ := l1Byte_dr b i h hb h0 h1
    by_cases q1 : n ≤ 256
    · rw [if_pos q1, f1]
      simp only [Option.bind_some, if_neg (show ¬ n = 0 by omega)]
      have := tmod_range x n p1.1 (by omega)
      exact ⟨_, _, _, rfl, ⟨this.1, fun _ => this.2⟩, a1, b1⟩
    · rw [if_neg q1, f1]
      obtain ⟨y, i2, e2, f2, p2, a2, b2⟩ := l1Byte_dr b i1 e1 hb a1 b1
      obtain ⟨z, i3, e3, f3, p3, a3, b3⟩ := l1Byte_dr b i2 e2 hb a2 b2
      simp only [Option.bind_some, f2, f3, if_neg (show ¬ n = 0 by omega)]
      rw [wrap_id (x := x * 65536) (by omega) (by omega), wrap_id (x := y * 256) (by omega) (by omega), wrap_id (x := x * 65536 + y * 256) (by omega) (by omega), wrap_id (x := x * 65536 + y * 256 + z) (by omega) (by omega)]
      have := tmod_range (x * 65536 + y * 256 + z) n (by omega) (by omega)
      exact ⟨_, _, _, rfl, ⟨this.1, fun _ => this.2⟩, a3, b3⟩

theorem l1Str_dr (l : List ByteArray) (hl : 0 < l.length) : Dr (fun b i h => spec_l1Str.f b i h l) (fun x => x ∈ l) := by
  intro b i h hb h0 h1
  obtain ⟨x, i1, e1, f1, p1, a1, b1⟩ := l1Below_dr (l.length : Int) b i h hb h0 h1
  have f1' : spec_l1Below.f b i h (l.length : Int) = some (x, i1, e1) := f1
  have hx := p1.2 (by omega)
  show ∃ x i' h', spec_l1Str.f b i h l = some (x, i', h') ∧ _
  unfold spec_l1Str.f
  rw [f1']
  simp only [Option.bind_some, if_pos p1.1, if_pos hx]
  refine ⟨_, _, _, rfl, ?_, a1, b1⟩
  have hn : x.toNat < l.length := by omega
  rw [rdOf, List.getD_eq_getElem?_getD, List.getElem?_eq_getElem hn]
  exact List.getElem_mem hn
theorem Dr.of_str {P : ByteArray → Prop} {l : List ByteArray} {f : List Int → Int → Int → Option (ByteArray × Int × Int)} (hf : ∀ b i h, f b i h = (spec_l1Str.f b i h l).bind fun t => some (t.1, t.2.1, t.2.2)) (hl : 0 < l.length) (hP : ∀ x ∈ l, P x) : Dr f P := by
  intro b i h hb h0 h1
  obtain ⟨x, i1, e1, f1, p1, a1, b1⟩ := l1Str_dr l hl b i h hb h0 h1
  have f1' : spec_l1Str.f b i h l = some (x, i1, e1) := f1
  rw [hf, f1']
  exact ⟨_, _, _, rfl, hP x p1, a1, b1⟩

theorem l1Text_dr : Dr spec_l1Text.f (fun x => x.size ≤ 30) := Dr.of_str (fun _ _ _ => rfl) (by decide) (by decide)

theorem l1Int_dr (l : List Int) (hl : 0 < l.length) : Dr (fun b i h => spec_l1Int.f b i h l) (fun x => x ∈ l) := by
  intro b i h hb h0 h1
  obtain ⟨x, i1, e1, f1, p1, a1, b1⟩ := l1Below_dr (l.length : Int) b i h hb h0 h1
  have f1' : spec_l1Below.f b i h (l.length : Int) = some (x, i1, e1) := f1
  have hx := p1.2 (by omega)
  show ∃ x i' h', spec_l1Int.f b i h l = some (x, i', h') ∧ _
  unfold spec_l1Int.f
  rw [f1']
  simp only [Option.bind_some, if_pos p1.1, if_pos hx]
  refine ⟨_, _, _, rfl, ?_, a1, b1⟩
  have hn : x.toNat < l.length := by omega
  rw [rd, List.getD_eq_getElem?_getD, List.getElem?_eq_getElem hn]
  exact List.getElem_mem hn
theorem l1Num_dr : Dr spec_l1Num.f (fun x => -9223372036854775808 ≤ x ∧ x ≤ 9223372036854775807) := by
  intro b i h hb h0 h1
  obtain ⟨x, i1, e1, f1, p1, a1, b1⟩ := l1Below_dr 1000 b i h hb h0 h1
  have f1' : spec_l1Below.f b i h 1000 = some (x, i1, e1) := f1
  obtain ⟨y, i2, e2, f2, p2, a2, b2⟩ := l1Int_dr [0, 1, 9, 10, 15, 16, 255, 256, 4095, 65535, 9999999, 10000000, (-1), (-9223372036854775808), 9223372036854775807, x] (by simp) b i1 e1 hb a1 b1
  have f2' : spec_l1Int.f b i1 e1 _ = some (y, i2, e2) := f2
  unfold spec_l1Num.f
  rw [f1']
  simp only [Option.bind_some, f2']
  refine ⟨_, _, _, rfl, ?_, a2, b2⟩
  have := p1.2 (by omega)
  have := p1.1
  simp only [List.mem_cons, List.not_mem_nil, or_false] at p2
  omega

theorem l1Once_dr (n : Int) : Dr (fun b i h => spec_l1Once.f b i h n) (fun _ => True) := by
  intro b i h hb h0 h1
  obtain ⟨x, i1, e1, f1, p1, a1, b1⟩ := l1Below_dr n b i h hb h0 h1
  have f1' : spec_l1Below.f b i h n = some (x, i1, e1) := f1
  show ∃ x i' h', spec_l1Once.f b i h n = some (x, i', h') ∧ _
  unfold spec_l1Once.f
  rw [f1']
  exact ⟨_, _, _, rfl, trivial, a1, b1⟩

/-- the digits of a number, as bytes -/
def numD (u : Nat) : List Int := (Lib.decDigits u).map fun b => (b.toNat : Int)
theorem numD_step (u : Nat) (h : 9 < u) : numD u = numD (u / 10) ++ [48 + ((u % 10 : Nat) : Int)] := by
  unfold numD
  rw [Lib.decDigits, dif_neg (by omega), List.map_append]
  congr 1
  simp only [List.map_cons, List.map_nil, List.cons.injEq, and_true]
  rw [show (UInt8.ofNat (48 + u % 10)).toNat = 48 + u % 10 from by simp; omega]
  omega
theorem numD_low (u : Nat) (h : u ≤ 9) : numD u = [48 + (u : Int)] := by
  unfold numD
  rw [Lib.decDigits, dif_pos (by omega)]
  simp only [List.map_cons, List.map_nil, List.cons.injEq, and_true]
  rw [show (UInt8.ofNat (48 + u)).toNat = 48 + u from by simp; omega]
  omega
theorem numD_range (u : Nat) : ∀ x ∈ numD u, 0 ≤ x ∧ x < 256 := by
  intro x hx
  obtain ⟨b, _, rfl⟩ := List.mem_map.1 hx
  have := b.toNat_lt
  omega
theorem strNum (u : Nat) : (⟨(Lib.decDigits u).toArray⟩ : ByteArray) = strOfNums (numD u) := by
  apply bytesOf_inj
  rw [bytesOf_strOfNums _ (numD_range u), bytesOf_mk]; rfl
theorem numD_len : ∀ (k u : Nat), u < 10 ^ (k + 1) → (numD u).length ≤ k + 1
  | 0, u, h => by rw [numD_low u (by simpa using Nat.le_of_lt_succ h)]; simp
  | k + 1, u, h => by
    rcases Nat.lt_or_ge 9 u with h9 | h9
    · rw [numD_step u h9, List.length_append]
      have := numD_len k (u / 10) (by rw [Nat.pow_succ] at h; omega)
      simp; omega
    · rw [numD_low u h9]; simp
/-- one digit in front -/
theorem digit_byte (u : Nat) (hu : u ≤ 9223372036854775807) : wrap64 (48 + Int.tmod (u : Int) 10) % 256 = 48 + ((u % 10 : Nat) : Int) := by
  have e : Int.tmod (u : Int) 10 = ((u % 10 : Nat) : Int) := by rw [Int.tmod_eq_emod_of_nonneg (by omega)]; omega
  rw [e, wrap_id (by omega) (by omega)]
  omega
theorem tdiv_ten (u : Nat) (hu : u ≤ 9223372036854775807) : wrap64 (Int.tdiv (u : Int) 10) = ((u / 10 : Nat) : Int) := by
  rw [Int.tdiv_eq_ediv_of_nonneg (by omega), wrap_id (by omega) (by omega)]
  omega

/-- digits, read as a number -/
def decL : Int → List Int → Option Int
  | a, [] => some a
  | a, c :: r => if 48 ≤ c ∧ c ≤ 57 then decL (a * 10 + (c - 48)) r else none
theorem decL_from : ∀ (l : List UInt8) (acc : Nat), decL (acc : Int) (l.map fun b => (b.toNat : Int)) = (Lib.decFrom acc l).map fun m => (m : Int)
  | [], _ => rfl
  | c :: r, acc => by
    simp only [List.map_cons, decL, Lib.decFrom, Lib.digitVal]
    by_cases h : 48 ≤ c.toNat ∧ c.toNat ≤ 57
    · rw [if_pos h, if_pos (by omega), ← decL_from r]
      congr 1; omega
    · rw [if_neg h, if_neg (by omega)]; rfl
theorem decL_snoc : ∀ (l : List Int) (a c : Int), decL a (l ++ [c]) = (decL a l).bind fun m => if 48 ≤ c ∧ c ≤ 57 then some (m * 10 + (c - 48)) else none
  | [], a, c => by simp [decL]
  | d :: r, a, c => by
    simp only [List.cons_append, decL]
    split
    · exact decL_snoc r _ c
    · rfl
theorem decL_le : ∀ (l : List Int) (a m : Int), 0 ≤ a → decL a l = some m → 0 ≤ m ∧ m < (a + 1) * 10 ^ l.length
  | [], a, m, ha, h => by simp only [decL, Option.some.injEq] at h; subst h; simp; omega
  | c :: r, a, m, ha, h => by
    simp only [decL] at h
    split at h
    · have := decL_le r _ m (by omega) h
      refine ⟨this.1, Int.lt_of_lt_of_le this.2 ?_⟩
      rw [List.length_cons, Int.pow_succ, Int.mul_comm (10 ^ r.length) 10, ← Int.mul_assoc]
      exact Int.mul_le_mul_of_nonneg_right (by omega) (Int.le_of_lt (Int.pow_pos (by decide)))
    · cases h
theorem numD_ne (u : Nat) : numD u ≠ [] := by
  rcases Nat.lt_or_ge 9 u with h9 | h9
  · rw [numD_step u h9]; simp
  · rw [numD_low u h9]; simp
theorem decL_numD (u : Nat) : decL 0 (numD u) = some (u : Int) := by
  induction u using Nat.strongRecOn with
  | _ u ih =>
    rcases Nat.lt_or_ge 9 u with h9 | h9
    · rw [numD_step u h9, decL_snoc, ih (u / 10) (by omega), Option.bind_some, if_pos (by omega)]
      congr 1; omega
    · rw [numD_low u h9]
      simp only [decL]
      rw [if_pos (by omega)]
      congr 1; omega
theorem numD_48 (u : Nat) : ∀ r, numD u = 48 :: r → u = 0 := by
  induction u using Nat.strongRecOn with
  | _ u ih =>
    intro r h
    rcases Nat.lt_or_ge 9 u with h9 | h9
    · rw [numD_step u h9] at h
      cases hd : numD (u / 10) with
      | nil => have := numD_ne (u / 10); exact absurd hd this
      | cons c t =>
        rw [hd, List.cons_append] at h
        obtain ⟨rfl, _⟩ := List.cons.inj h
        have := ih (u / 10) (by omega) t hd
        omega
    · rw [numD_low u h9] at h
      have := (List.cons.inj h).1
      omega
theorem numD_dig (u : Nat) : ∀ c ∈ numD u, 48 ≤ c ∧ c ≤ 57 := by
  induction u using Nat.strongRecOn with
  | _ u ih =>
    intro c h
    rcases Nat.lt_or_ge 9 u with h9 | h9
    · rw [numD_step u h9, List.mem_append] at h
      rcases h with h | h
      · exact ih (u / 10) (by omega) c h
      · simp at h; omega
    · rw [numD_low u h9] at h
      simp at h; omega
/-- what digits without a 0 ahead spell has these digits -/
theorem numD_dec : ∀ (n : Nat) (l : List Int) (m : Int), l.length = n + 1 → decL 0 l = some m → (n = 0 ∨ ∀ r, l ≠ 48 :: r) → numD m.toNat = l
  | 0, l, m, hl, h, _ => by
    obtain ⟨c, rfl⟩ := List.length_eq_one_iff.1 hl
    simp only [decL] at h
    split at h
    · obtain rfl := Option.some.inj h
      rw [numD_low _ (by omega)]
      congr 1; omega
    · cases h
  | n + 1, l, m, hl, h, h0 => by
    replace h0 : ∀ r, l ≠ 48 :: r := by rcases h0 with h0 | h0; · omega
                                        · exact h0
    obtain ⟨l', c, rfl⟩ : ∃ l' c, l = l' ++ [c] := ⟨l.dropLast, l.getLast (by intro e; subst e; simp at hl), (List.dropLast_concat_getLast _).symm⟩
    have hl' : l'.length = n + 1 := by simp at hl; omega
    rw [decL_snoc] at h
    obtain ⟨m', hm', h⟩ := Option.bind_eq_some_iff.1 h
    split at h
    · rename_i hc
      obtain rfl := Option.some.inj h
      have hb := decL_le l' 0 m' (by omega) hm'
      have h0' : ∀ r, l' ≠ 48 :: r := fun r e => h0 (r ++ [c]) (by rw [e]; rfl)
      have ih := numD_dec n l' m' hl' hm' (.inr h0')
      have h1 : 0 < m'.toNat := by
        rcases Nat.eq_zero_or_pos m'.toNat with e | e
        · rw [e, numD_low 0 (by omega)] at ih
          exact absurd ih.symm (h0' [])
        · exact e
      rw [numD_step _ (by omega), show (m' * 10 + (c - 48)).toNat / 10 = m'.toNat from by omega, ih]
      congr 2; omega
    · cases h

/-- byte classes -/
def plainC (c : Int) : Bool := decide (32 ≤ c) && decide (c ≤ 126)
def smallC (c : Int) : Bool := decide (97 ≤ c) && decide (c ≤ 122)
def digitC (c : Int) : Bool := decide (48 ≤ c) && decide (c ≤ 57)
def largeC (c : Int) : Bool := decide (65 ≤ c) && decide (c ≤ 90)

theorem l1In_eq (c a b : Int) : spec_l1In.f c a b = some (decide (a ≤ c) && decide (c ≤ b)) := by
  unfold spec_l1In.f; split <;> simp [*] <;> omega

theorem l1Digit_eq (c : Int) (h : wrap64 c = c) : spec_l1Digit.f c = some (digitC c) := by
  unfold spec_l1Digit.f; rw [h, l1In_eq]; rfl

theorem impl_NumText_eq (n : Int) (hn : n ≤ 9223372036854775807) : impl_NumText.f n = some (strOfNums (numD n.toNat)) := by
  have e : mx n 0 = ((n.toNat : Nat) : Int) := by unfold mx; split <;> omega
  unfold impl_NumText.f
  rw [e]
  unfold strconv_Itoa.f
  rw [if_pos (by omega), Option.bind_some]
  unfold Lib.itoa
  rw [if_neg (by omega), Int.toNat_natCast, strNum]

/-- a number of at most seven digits, no 0 ahead, not above a bound -/
def pnum (s : ByteArray) (most : Int) : Int × Bool :=
  match decL 0 (bytesOf s) with
  | none => (0, false)
  | some n => if 1 ≤ s.size ∧ s.size ≤ 7 ∧ ¬ (1 < s.size ∧ (bytesOf s).head? = some 48) ∧ n ≤ most then (n, true) else (0, false)
theorem pnum_yes (s : ByteArray) (most : Int) (u : Nat) (hu : bytesOf s = numD u) (h7 : s.size ≤ 7) (hm : (u : Int) ≤ most) : pnum s most = ((u : Int), true) := by
  unfold pnum
  rw [hu, decL_numD]
  have hne := numD_ne u
  have hl : s.size = (numD u).length := by rw [← hu, bytesOf_length]
  have h1 : 1 ≤ s.size := by
    rcases Nat.eq_zero_or_pos s.size with e | e
    · rw [e] at hl; exact absurd (List.length_eq_zero_iff.1 hl.symm) hne
    · exact e
  refine if_pos ⟨h1, h7, ?_, hm⟩
  rintro ⟨h2, h3⟩
  cases hd : numD u with
  | nil => exact hne hd
  | cons c r =>
    rw [hd] at h3 hl
    simp only [List.head?_cons, Option.some.injEq] at h3
    subst h3
    have := numD_48 u r hd
    subst this
    rw [numD_low 0 (by omega)] at hd
    obtain ⟨_, rfl⟩ := List.cons.inj hd
    simp at hl; omega
theorem pnum_no (s : ByteArray) (most : Int) (h : ∀ u : Nat, bytesOf s = numD u → s.size ≤ 7 → ¬ (u : Int) ≤ most) : pnum s most = (0, false) := by
  unfold pnum
  cases hd : decL 0 (bytesOf s) with
  | none => rfl
  | some n =>
    refine if_neg ?_
    rintro ⟨h1, h7, h0, hm⟩
    have hb := decL_le _ 0 n (by omega) hd
    have hl := bytesOf_length s
    have := numD_dec (s.size - 1) (bytesOf s) n (by omega) hd (by
      rcases Nat.eq_zero_or_pos (s.size - 1) with e | e
      · exact .inl e
      · refine .inr fun r hr => h0 ⟨by omega, by rw [hr]; rfl⟩)
    exact h n.toNat this.symm h7 (by omega)
theorem impl_ParseNum_eq (s : ByteArray) (most : Int) (hs : s.size ≤ 281474976710656) : impl_ParseNum.f s most = some (pnum s most) := by
  unfold impl_ParseNum.f
  rw [if_pos hs]
  have hbs : bytesOf s = s.data.toList.map fun b => (b.toNat : Int) := rfl
  by_cases hy : ∃ u : Nat, bytesOf s = numD u ∧ s.size ≤ 7 ∧ (u : Int) ≤ most
  · obtain ⟨u, hu, h7, hm⟩ := hy
    rw [pnum_yes s most u hu h7 hm]
    have hlen : s.data.toList.length ≤ 18 := by have := data_length s; omega
    have hdec : Lib.decFrom 0 s.data.toList = some u := by
      have h1 := decL_from s.data.toList 0
      rw [← hbs, hu, show ((0 : Nat) : Int) = 0 from rfl, decL_numD] at h1
      cases hd : Lib.decFrom 0 s.data.toList with
      | none => rw [hd] at h1; cases h1
      | some m => rw [hd] at h1; have h2 : (u : Int) = (m : Int) := Option.some.inj h1; congr 1; omega
    have hat : Lib.atoiAll s.data.toList = .ok (u : Int) := by
      cases hl : s.data.toList with
      | nil => rw [hl] at hbs; rw [hu] at hbs; exact absurd hbs (numD_ne u)
      | cons c r =>
        have hc : 48 ≤ (c.toNat : Int) ∧ (c.toNat : Int) ≤ 57 := numD_dig u _ (by rw [← hu, hbs, hl]; simp)
        rw [Lib.atoiAll_plain c r (by omega) (by omega), ← hl, Lib.signless_short hlen]
        unfold Lib.decNat
        rw [if_neg (by rw [hl]; simp), hdec]
        rfl
    have hn := numD_len 6 u
    have hlt : (u : Int) < 10000000 := by
      have := (decL_le _ 0 _ (by omega) (decL_numD u)).2
      rw [← hu, bytesOf_length] at this
      have h3 : (10 : Int) ^ s.size ≤ 10 ^ 7 := by
        have := Nat.pow_le_pow_right (n := 10) (by decide) h7
        exact_mod_cast this
      have e7 : (10 : Int) ^ 7 = 10000000 := by decide
      omega
    rw [hat]
    (try simp only [])
    rw [if_neg (by omega), if_neg (by omega), if_neg (by omega), impl_NumText_eq _ (by omega), Option.bind_some, Int.toNat_natCast]
    rw [if_pos]
    rw [← hu, strOfNums_bytesOf]
  · rw [pnum_no s most (fun u h1 h2 h3 => hy ⟨u, h1, h2, h3⟩)]
    cases hat : Lib.atoiAll s.data.toList with
    | range => rfl
    | ok v =>
      have hb := Lib.atoiAll_bounds hat
      (try simp only [])
      by_cases h1 : v < 0
      · rw [if_pos h1]
      by_cases h2 : most < v
      · rw [if_neg h1, if_pos h2]
      by_cases h3 : 7 < s.size
      · rw [if_neg h1, if_neg h2, if_pos h3]
      rw [if_neg h1, if_neg h2, if_neg h3, impl_NumText_eq _ hb.2, Option.bind_some]
      rw [if_neg]
      intro e
      refine hy ⟨v.toNat, ?_, by omega, by omega⟩
      have : strOfNums (numD v.toNat) = s := (toList_iff _ _).1 e
      rw [← this, bytesOf_strOfNums _ (numD_range _)]
    | _ => rfl
def pnFin (s : ByteArray) (most n : Int) : Int × Bool := if 1 ≤ s.size ∧ s.size ≤ 7 ∧ ¬ (1 < s.size ∧ (bytesOf s).head? = some 48) ∧ n ≤ most then (n, true) else (0, false)
def pnRest (s : ByteArray) (most n : Int) (l : List Int) : Int × Bool := match decL n l with
  | none => (0, false)
  | some m => pnFin s most m
theorem pnFin_long (s : ByteArray) (most n : Int) (h : 7 < s.size) : pnFin s most n = (0, false) := by
  unfold pnFin; rw [if_neg (by omega)]
theorem pnRest_long (s : ByteArray) (most n : Int) (l : List Int) (h : 7 < s.size) : pnRest s most n l = (0, false) := by
  unfold pnRest
  cases decL n l with
  | none => rfl
  | some m => exact pnFin_long s most m h
theorem head_bt (s : ByteArray) (h : 0 < s.size) : (bytesOf s).head? = some (bt s 0) := by
  cases hb : bytesOf s with
  | nil => have := bytesOf_length s; rw [hb] at this; simp at this; omega
  | cons c r =>
    have := (bt_drop (s := s) (i := 0) (by rw [List.drop_zero]; exact hb)).1
    rw [show ((0 : Nat) : Int) = 0 from rfl] at this
    rw [this]; rfl
theorem spec_ParseNum_j1 (s : ByteArray) (most n i : Int) : Ev (fun k => spec_ParseNum.j1 k s most n i false) (pnFin s most n) := by
  apply ev_succ
  simp only [spec_ParseNum.j1, Bool.false_eq_true, if_false, l1In_eq, Option.bind_some]
  refine ev_iteB (fun q => ?_) (fun q => ?_)
  · simp only [Bool.and_eq_true, decide_eq_true_eq] at q
    refine ev_ite (fun q1 => ?_) (fun q1 => ?_)
    · rw [if_pos (show (0 : Int) < (s.size : Int) by omega)]
      have hb := head_bt s (by omega)
      by_cases q2 : bt s 0 = 48
      · rw [if_pos q2]
        have : pnFin s most n = (0, false) := by
          unfold pnFin
          rw [hb, q2, if_neg (fun h => h.2.2.1 ⟨by omega, rfl⟩)]
        rw [this]; exact Ev.now _
      · rw [if_neg q2]
        have hq : ¬ (1 < s.size ∧ (bytesOf s).head? = some 48) := fun h => q2 (by have := h.2; rw [hb] at this; exact Option.some.inj this)
        by_cases q3 : n > most
        · rw [if_pos q3]
          have : pnFin s most n = (0, false) := by unfold pnFin; rw [if_neg (by omega)]
          rw [this]; exact Ev.now _
        · rw [if_neg q3]
          have : pnFin s most n = (n, true) := by unfold pnFin; rw [if_pos ⟨by omega, by omega, hq, by omega⟩]
          rw [this]; exact Ev.now _
    · by_cases q3 : n > most
      · rw [if_pos q3]
        have : pnFin s most n = (0, false) := by unfold pnFin; rw [if_neg (by omega)]
        rw [this]; exact Ev.now _
      · rw [if_neg q3]
        have : pnFin s most n = (n, true) := by unfold pnFin; rw [if_pos ⟨by omega, by omega, fun h => by omega, by omega⟩]
        rw [this]; exact Ev.now _
  · have : pnFin s most n = (0, false) := by
      unfold pnFin
      rw [if_neg]
      rintro ⟨h1, h2, _⟩
      rw [decide_eq_true (by omega), decide_eq_true (by omega)] at q
      cases q
    rw [this]; exact Ev.now _
theorem spec_ParseNum_ev (s : ByteArray) (most : Int) (hs : s.size ≤ 140737488351232) : Ev (fun k => spec_ParseNum.f k s most) (pnum s most) := by
  have := str_loop_st s (fun i n k => spec_ParseNum.l0 k s most n (i : Int)) (fun i n r => pnRest s most n r) (fun i n r => i ≤ 8 ∧ 0 ≤ n ∧ n < 10 ^ i ∧ i + r.length = s.size) ?_ ?_ hs 0 0 ⟨by omega, by omega, by simp, by simp [bytesOf_length]⟩
  · exact this
  · intro i n ⟨h8, h0, hn, hl⟩ hi
    apply ev_succ
    simp only [spec_ParseNum.l0, if_neg (show ¬ (i : Int) < s.size by omega)]
    exact spec_ParseNum_j1 s most n i
  · intro i n c r ⟨h8, h0, hn, hl⟩ h hb hi hw hw1 ih
    have hc := bytesOf_range s c (List.mem_of_mem_drop (by rw [h]; simp : c ∈ (bytesOf s).drop i))
    apply ev_succ
    simp only [spec_ParseNum.l0, if_pos (show (i : Int) < s.size by omega)]
    rcases Nat.lt_or_ge i 8 with q8 | q8
    · rw [decide_eq_true (by omega)]
      apply ev_succ
      simp only [spec_ParseNum.j1, if_true, if_pos (show (0 : Int) ≤ (i : Int) by omega), if_pos (show (i : Int) < s.size by omega), hb, l1Digit_eq c hw, Option.bind_some, hw1]
      have hp : (10 : Int) ^ i ≤ 10 ^ 7 := by
        have := Nat.pow_le_pow_right (n := 10) (by decide) (show i ≤ 7 by omega)
        exact_mod_cast this
      have e7 : (10 : Int) ^ 7 = 10000000 := by decide
      by_cases qd : 48 ≤ c ∧ c ≤ 57
      · have hd : digitC c = true := by simp only [digitC, Bool.and_eq_true, decide_eq_true_eq]; exact qd
        simp only [hd, if_true]
        rw [wrap_id (x := n * 10) (by omega) (by omega), show (c - 48) % 256 = c - 48 by omega, wrap_id (x := n * 10 + (c - 48)) (by omega) (by omega)]
        have := ih (n * 10 + (c - 48)) ⟨by omega, by omega, by rw [Int.pow_succ]; omega, by simp at hl ⊢; omega⟩
        have e : pnRest s most n (c :: r) = pnRest s most (n * 10 + (c - 48)) r := by
          unfold pnRest; simp only [decL, if_pos qd]
        rw [e]; exact this
      · have hd : digitC c = false := by rw [← Bool.not_eq_true]; simp only [digitC, Bool.and_eq_true, decide_eq_true_eq]; exact qd
        simp only [hd, Bool.false_eq_true, if_false]
        have e : pnRest s most n (c :: r) = (0, false) := by
          unfold pnRest; simp only [decL, if_neg qd]
        rw [e]; exact Ev.now _
    · rw [decide_eq_false (by omega), pnRest_long s most n (c :: r) (by simp at hl; omega)]
      have := spec_ParseNum_j1 s most n i
      rw [pnFin_long s most n (by simp at hl; omega)] at this
      exact this

theorem pnum_bound (s : ByteArray) (most : Int) (h : (pnum s most).2 = true) : 0 ≤ (pnum s most).1 ∧ (pnum s most).1 ≤ most ∧ ∀ c ∈ bytesOf s, 48 ≤ c ∧ c ≤ 57 := by
  unfold pnum at *
  cases hd : decL 0 (bytesOf s) with
  | none => rw [hd] at h; cases h
  | some n =>
    rw [hd] at h
    simp only [] at h ⊢
    split at h
    · rename_i hq
      rw [if_pos hq]
      refine ⟨(decL_le _ 0 n (by omega) hd).1, hq.2.2.2, ?_⟩
      have key : ∀ (l : List Int) (a m : Int), decL a l = some m → ∀ c ∈ l, 48 ≤ c ∧ c ≤ 57 := by
        intro l
        induction l with
        | nil => intro a m _ c hc; cases hc
        | cons d r ih =>
          intro a m hm c hc
          simp only [decL] at hm
          split at hm
          · rename_i hd
            rcases List.mem_cons.1 hc with rfl | hc
            · exact hd
            · exact ih _ m hm c hc
          · cases hm
      exact key _ 0 n hd
    · cases h

theorem spec_NumText_l0 : ∀ (n u : Nat) (x : ByteArray), u < 10 ^ (n + 1) → u ≤ 9223372036854775807 → x.size ≤ 1000 - n → n ≤ 20 → bytesOf x = (numD u).drop ((numD u).length - 1) ++ (bytesOf x).drop 1 → Ev (fun k => spec_NumText.l0 k (u : Int) x) (strOfNums (numD u ++ (bytesOf x).drop 1))
  | 0, u, x, h, hu, hx, hn, hb => by
    have h9 : u ≤ 9 := by omega
    apply ev_succ
    simp only [spec_NumText.l0, if_neg (show ¬ (u : Int) > 9 by omega)]
    rw [numD_low u h9] at hb ⊢
    simp only [List.length_cons, List.length_nil, List.drop_zero, Nat.zero_add, Nat.sub_self] at hb
    rw [← hb, strOfNums_bytesOf]
    exact Ev.now _
  | n + 1, u, x, h, hu, hx, hn, hb => by
    apply ev_succ
    rcases Nat.lt_or_ge 9 u with h9 | h9
    · have hy : bytesOf (strOfNums [48 + ((u / 10 % 10 : Nat) : Int)]) = [48 + ((u / 10 % 10 : Nat) : Int)] := bytesOf_strOfNums _ (by intro z hz; simp at hz; omega)
      have hs1 : (strOfNums [48 + ((u / 10 % 10 : Nat) : Int)]).size = 1 := by rw [size_len, hy]; rfl
      simp only [spec_NumText.l0, if_pos (show (u : Int) > 9 by omega), tdiv_ten u hu, digit_byte (u / 10) (by omega), Option.bind_some, hs1, if_pos (show 1 + x.size ≤ 9223372036854775807 by omega)]
      have e : bytesOf (strOfNums [48 + ((u / 10 % 10 : Nat) : Int)] ++ x) = (48 + ((u / 10 % 10 : Nat) : Int)) :: bytesOf x := by rw [bytesOf_append, hy]; rfl
      have ih := spec_NumText_l0 n (u / 10) (strOfNums [48 + ((u / 10 % 10 : Nat) : Int)] ++ x) (by rw [Nat.pow_succ] at h; omega) (by omega) (by rw [ByteArray.size_append, hs1]; omega) (by omega) (by
        rw [e]
        simp only [List.drop_succ_cons, List.drop_zero]
        rcases Nat.lt_or_ge 9 (u / 10) with h10 | h10
        · rw [numD_step (u / 10) h10]
          simp
        · rw [numD_low (u / 10) h10, Nat.mod_eq_of_lt (by omega)]
          simp)
      rw [e] at ih
      simp only [List.drop_succ_cons, List.drop_zero] at ih
      rw [numD_step u h9] at hb ⊢
      simp only [List.length_append, List.length_cons, List.length_nil, Nat.zero_add, Nat.add_sub_cancel, List.drop_left] at hb
      rw [List.append_assoc, ← hb]
      exact ih
    · simp only [spec_NumText.l0, if_neg (show ¬ (u : Int) > 9 by omega)]
      rw [numD_low u h9] at hb ⊢
      simp only [List.length_cons, List.length_nil, List.drop_zero, Nat.zero_add, Nat.sub_self] at hb
      rw [← hb, strOfNums_bytesOf]
      exact Ev.now _
theorem spec_NumText_j0 (u : Nat) (hu : u ≤ 9223372036854775807) : Ev (fun k => spec_NumText.j0 k (u : Int)) (strOfNums (numD u)) := by
  apply ev_succ
  simp only [spec_NumText.j0, digit_byte u hu]
  have hy : bytesOf (strOfNums [48 + ((u % 10 : Nat) : Int)]) = [48 + ((u % 10 : Nat) : Int)] := bytesOf_strOfNums _ (by intro z hz; simp at hz; omega)
  have hs1 : (strOfNums [48 + ((u % 10 : Nat) : Int)]).size = 1 := by rw [size_len, hy]; rfl
  have := spec_NumText_l0 18 u (strOfNums [48 + ((u % 10 : Nat) : Int)]) (by omega) hu (by omega) (by omega) (by
    rw [hy]
    rcases Nat.lt_or_ge 9 u with h9 | h9
    · rw [numD_step u h9]; simp
    · rw [numD_low u h9, Nat.mod_eq_of_lt (by omega)]; simp)
  rw [hy] at this
  simpa using this
theorem spec_NumText_ev (n : Int) (hn : n ≤ 9223372036854775807) : Ev (fun k => spec_NumText.f k n) (strOfNums (numD n.toNat)) := by
  unfold spec_NumText.f
  refine ev_ite (fun h => ?_) (fun h => ?_)
  · rw [show n.toNat = 0 from by omega]
    exact spec_NumText_j0 0 (by omega)
  · have := spec_NumText_j0 n.toNat (by omega)
    rwa [Int.toNat_of_nonneg (by omega)] at this

/-- a digit to the base 16, and a number's digits -/
def hexN (u : Nat) : List Int := (hexB u).map fun b => (b.toNat : Int)
def hexDg (d : Nat) : Int := if d < 10 then 48 + (d : Int) else 87 + (d : Int)
theorem hexb_toNat (d : Nat) (h : d < 16) : ((hexb d).toNat : Int) = hexDg d := by
  unfold hexb hexDg
  split
  · rw [show (UInt8.ofNat (48 + d)).toNat = 48 + d from by simp; omega]; omega
  · rw [show (UInt8.ofNat (87 + d)).toNat = 87 + d from by simp; omega]; omega
theorem hexN_step (u : Nat) (h : 15 < u) : hexN u = hexN (u / 16) ++ [hexDg (u % 16)] := by
  unfold hexN
  rw [hexB, dif_neg (by omega), List.map_append]
  congr 1
  simp only [List.map_cons, List.map_nil, List.cons.injEq, and_true]
  exact hexb_toNat _ (by omega)
theorem hexN_low (u : Nat) (h : u ≤ 15) : hexN u = [hexDg u] := by
  unfold hexN
  rw [hexB, dif_pos (by omega)]
  simp only [List.map_cons, List.map_nil, List.cons.injEq, and_true]
  exact hexb_toNat _ (by omega)
theorem hexN_range (u : Nat) : ∀ x ∈ hexN u, 0 ≤ x ∧ x < 256 := by
  intro x hx
  obtain ⟨b, _, rfl⟩ := List.mem_map.1 hx
  have := b.toNat_lt
  omega
theorem hexDg_range (d : Nat) (h : d < 16) : 48 ≤ hexDg d ∧ hexDg d ≤ 102 := by unfold hexDg; split <;> omega
theorem strHex (u : Nat) : (⟨(hexB u).toArray⟩ : ByteArray) = strOfNums (hexN u) := by
  apply bytesOf_inj
  rw [bytesOf_strOfNums _ (hexN_range u), bytesOf_mk]; rfl
theorem tdiv_16 (u : Nat) (hu : u ≤ 9223372036854775807) : wrap64 (Int.tdiv (u : Int) 16) = ((u / 16 : Nat) : Int) := by
  rw [Int.tdiv_eq_ediv_of_nonneg (by omega), wrap_id (by omega) (by omega)]
  omega
theorem tmod_16 (u : Nat) (hu : u ≤ 9223372036854775807) : Int.tmod (u : Int) 16 = ((u % 16 : Nat) : Int) := by
  rw [Int.tmod_eq_emod_of_nonneg (by omega)]; omega

theorem hexDig_eq (d : Nat) (h : d < 16) : spec_l1HexDigit.f ((d : Nat) : Int) = some (hexDg d) := by
  unfold spec_l1HexDigit.f hexDg
  by_cases h9 : d < 10
  · rw [if_pos (by omega), if_pos h9, wrap_id (by omega) (by omega)]; congr 1; omega
  · rw [if_neg (by omega), if_neg h9, wrap_id (x := 97 + (d : Int)) (by omega) (by omega), wrap_id (by omega) (by omega)]; congr 1; omega
theorem spec_Hex_l0 : ∀ (n u : Nat) (x : ByteArray), u < 16 ^ (n + 1) → u ≤ 9223372036854775807 → x.size ≤ 1000 - n → n ≤ 20 → bytesOf x = (hexN u).drop ((hexN u).length - 1) ++ (bytesOf x).drop 1 → Ev (fun k => spec_Hex.l0 k (u : Int) x) (strOfNums (hexN u ++ (bytesOf x).drop 1))
  | 0, u, x, h, hu, hx, hn, hb => by
    have h9 : u ≤ 15 := by omega
    apply ev_succ
    simp only [spec_Hex.l0, if_neg (show ¬ (u : Int) > 15 by omega)]
    rw [hexN_low u h9] at hb ⊢
    simp only [List.length_cons, List.length_nil, List.drop_zero, Nat.zero_add, Nat.sub_self] at hb
    rw [← hb, strOfNums_bytesOf]
    exact Ev.now _
  | n + 1, u, x, h, hu, hx, hn, hb => by
    apply ev_succ
    rcases Nat.lt_or_ge 15 u with h9 | h9
    · have hd := hexDg_range (u / 16 % 16) (Nat.mod_lt _ (by decide))
      have hy : bytesOf (strOfNums [hexDg (u / 16 % 16)]) = [hexDg (u / 16 % 16)] := bytesOf_strOfNums _ (by intro z hz; simp at hz; omega)
      have hs1 : (strOfNums [hexDg (u / 16 % 16)]).size = 1 := by rw [size_len, hy]; rfl
      simp only [spec_Hex.l0, if_pos (show (u : Int) > 15 by omega), tdiv_16 u hu, tmod_16 (u / 16) (by omega), hexDig_eq _ (Nat.mod_lt _ (by decide : 0 < 16)), Option.bind_some, hs1, if_pos (show 1 + x.size ≤ 9223372036854775807 by omega)]
      have e : bytesOf (strOfNums [hexDg (u / 16 % 16)] ++ x) = hexDg (u / 16 % 16) :: bytesOf x := by rw [bytesOf_append, hy]; rfl
      have ih := spec_Hex_l0 n (u / 16) (strOfNums [hexDg (u / 16 % 16)] ++ x) (by rw [Nat.pow_succ] at h; omega) (by omega) (by rw [ByteArray.size_append, hs1]; omega) (by omega) (by
        rw [e]
        simp only [List.drop_succ_cons, List.drop_zero]
        rcases Nat.lt_or_ge 15 (u / 16) with h10 | h10
        · rw [hexN_step (u / 16) h10]
          simp
        · rw [hexN_low (u / 16) h10, Nat.mod_eq_of_lt (by omega)]
          simp)
      rw [e] at ih
      simp only [List.drop_succ_cons, List.drop_zero] at ih
      rw [hexN_step u h9] at hb ⊢
      simp only [List.length_append, List.length_cons, List.length_nil, Nat.zero_add, Nat.add_sub_cancel, List.drop_left] at hb
      rw [List.append_assoc, ← hb]
      exact ih
    · simp only [spec_Hex.l0, if_neg (show ¬ (u : Int) > 15 by omega)]
      rw [hexN_low u h9] at hb ⊢
      simp only [List.length_cons, List.length_nil, List.drop_zero, Nat.zero_add, Nat.sub_self] at hb
      rw [← hb, strOfNums_bytesOf]
      exact Ev.now _
theorem spec_Hex_j0 (u : Nat) (hu : u ≤ 9223372036854775807) : Ev (fun k => spec_Hex.j0 k (u : Int)) (strOfNums (hexN u)) := by
  apply ev_succ
  simp only [spec_Hex.j0, tmod_16 u hu, hexDig_eq _ (Nat.mod_lt _ (by decide : 0 < 16)), Option.bind_some]
  have hd := hexDg_range (u % 16) (Nat.mod_lt _ (by decide))
  have hy : bytesOf (strOfNums [hexDg (u % 16)]) = [hexDg (u % 16)] := bytesOf_strOfNums _ (by intro z hz; simp at hz; omega)
  have hs1 : (strOfNums [hexDg (u % 16)]).size = 1 := by rw [size_len, hy]; rfl
  have := spec_Hex_l0 18 u (strOfNums [hexDg (u % 16)]) (by omega) hu (by omega) (by omega) (by
    rw [hy]
    rcases Nat.lt_or_ge 15 u with h9 | h9
    · rw [hexN_step u h9]; simp
    · rw [hexN_low u h9, Nat.mod_eq_of_lt (by omega)]; simp)
  rw [hy] at this
  simpa using this
theorem spec_Hex_ev (n : Int) (hn : n ≤ 9223372036854775807) : Ev (fun k => spec_Hex.f k n) (strOfNums (hexN n.toNat)) := by
  unfold spec_Hex.f
  refine ev_ite (fun h => ?_) (fun h => ?_)
  · rw [show n.toNat = 0 from by omega]
    exact spec_Hex_j0 0 (by omega)
  · have := spec_Hex_j0 n.toNat (by omega)
    rwa [Int.toNat_of_nonneg (by omega)] at this
theorem impl_Hex_eq (n : Int) (hn : n ≤ 9223372036854775807) : impl_Hex.f n = some (strOfNums (hexN n.toNat)) := by
  have e : mx n 0 = ((n.toNat : Nat) : Int) := by unfold mx; split <;> omega
  unfold impl_Hex.f
  rw [e]
  unfold strconv_FormatInt.f
  rw [if_pos ⟨by omega, by omega, rfl⟩, Option.bind_some, Int.toNat_natCast, strHex]

theorem hexN_len : ∀ (k u : Nat), u < 16 ^ (k + 1) → (hexN u).length ≤ k + 1
  | 0, u, h => by rw [hexN_low u (by simpa using Nat.le_of_lt_succ h)]; simp
  | k + 1, u, h => by
    rcases Nat.lt_or_ge 15 u with h9 | h9
    · rw [hexN_step u h9, List.length_append]
      have := hexN_len k (u / 16) (by rw [Nat.pow_succ] at h; omega)
      simp; omega
    · rw [hexN_low u h9]; simp

theorem isDigit_eq (c : Int) : impl_isDigit.f c = some (digitC c) := by
  unfold impl_isDigit.f digitC; split <;> simp [*] <;> omega

/-- a digit's worth to the base 16, or -1 -/
def hexC (c : Int) : Int := if digitC c = true then c - 48 else if 97 ≤ c ∧ c ≤ 102 then c - 87 else if 65 ≤ c ∧ c ≤ 70 then c - 55 else -1
theorem hexC_range (c : Int) : -1 ≤ hexC c ∧ hexC c < 16 := by
  unfold hexC digitC
  split
  · rename_i h; simp at h; omega
  · split
    · omega
    · split <;> omega
theorem digitOf_ev (c : Int) (h0 : 0 ≤ c) (h1 : c < 256) : Ev (fun k => impl_digitOf.f k c) (hexC c) := by
  have H : ∀ k, impl_digitOf.f (k + 1) c = some (hexC c) := by
    intro k
    simp only [impl_digitOf.f, isDigit_eq, Option.bind_some, impl_digitOf.j0, hexC]
    by_cases a1 : 48 ≤ c <;> by_cases a2 : c ≤ 57 <;> by_cases a3 : 97 ≤ c <;> by_cases a4 : c ≤ 102 <;> by_cases a5 : 65 ≤ c <;> by_cases a6 : c ≤ 70
    all_goals first | (exfalso; omega) | (simp [digitC, a1, a2, a3, a4, a5, a6, ge_iff_le]; done) | (simp [digitC, a1, a2, a3, a4, a5, a6, ge_iff_le]; omega)
  exact Ev.step H (Ev.now _)
theorem l1HexOf_eq (c : Int) (h0 : 0 ≤ c) (h1 : c < 256) : spec_l1HexOf.f c = some (hexC c) := by
  have hw : wrap64 c = c := wrap_id (by omega) (by omega)
  simp only [spec_l1HexOf.f, l1Digit_eq c hw, Option.bind_some, hw, l1In_eq, hexC]
  by_cases q : digitC c = true
  · rw [if_pos q, if_pos q, wrap_id (by omega) (by omega)]
  · rw [if_neg q, if_neg q]
    by_cases q1 : 97 ≤ c ∧ c ≤ 102
    · rw [if_pos (by simpa using q1), if_pos q1, wrap_id (x := c - 97) (by omega) (by omega), wrap_id (by omega) (by omega)]; congr 1; omega
    · rw [if_neg (by simpa using q1), if_neg q1]
      by_cases q2 : 65 ≤ c ∧ c ≤ 70
      · rw [if_pos (by simpa using q2), if_pos q2, wrap_id (x := c - 65) (by omega) (by omega), wrap_id (by omega) (by omega)]; congr 1; omega
      · rw [if_neg (by simpa using q2), if_neg q2]

def phL : Nat → Int → List Int → Int × Bool
  | i, n, [] => (n, decide (i ≠ 0))
  | i, n, c :: r => if hexC c < 0 then (0, false) else if i ≥ 4 then (0, false) else phL (i + 1) (n * 16 + hexC c) r
def parseHex (s : ByteArray) : Int × Bool := phL 0 0 (bytesOf s)
theorem pow16 {i : Nat} (h : i ≤ 4) : (16 : Int) ^ i ≤ 65536 := by
  rcases i with _ | _ | _ | _ | _ | i
  all_goals first | omega | decide
theorem impl_ParseHex_ev (s : ByteArray) (hs : s.size ≤ 140737488351232) : Ev (fun k => impl_ParseHex.f k s) (parseHex s) := by
  refine str_loop_st s (fun i n k => impl_ParseHex.l0 k s n (i : Int)) phL (fun i n r => i ≤ 4 ∧ 0 ≤ n ∧ n < 16 ^ i ∧ i + r.length = s.size) ?_ ?_ hs 0 0 ⟨by omega, by omega, by simp, by simp [bytesOf_length]⟩
  · intro i n ⟨_, _, _, hl⟩ hi
    apply ev_succ; simp only [impl_ParseHex.l0, if_neg (show ¬ (i : Int) < s.size by omega)]
    have : (s.toList != ([] : List UInt8)) = decide (i ≠ 0) := by
      rw [Lib.toList_data]
      have h2 := data_length s
      simp at hl
      rw [Bool.eq_iff_iff]
      simp only [bne_iff_ne, ne_eq, decide_eq_true_eq]
      rw [← List.length_eq_zero_iff, h2, hl]
    rw [this]; exact Ev.now _
  · intro i n c r ⟨h4, h0, hn, hl⟩ h hb hi hw hw1 ih
    have hc := bytesOf_range s c (List.mem_of_mem_drop (by rw [h]; simp : c ∈ (bytesOf s).drop i))
    have hd := hexC_range c
    have h16 := pow16 h4
    apply ev_succ
    simp only [impl_ParseHex.l0, if_pos (show (i : Int) < s.size by omega), if_pos (show (0 : Int) ≤ i by omega), hb, hw1]
    refine Ev.bind (digitOf_ev c hc.1 hc.2) (ev_ite (fun q => ?_) (fun q => ev_ite (fun q1 => ?_) (fun q1 => ?_)))
    · simpa [phL, q] using Ev.now (0, false)
    · have : i ≥ 4 := by omega
      simpa [phL, q, this] using Ev.now (0, false)
    · have h5 : ¬ i ≥ 4 := by omega
      rw [wrap_id (x := 16 * n) (by omega) (by omega), wrap_id (by omega) (by omega)]
      have := ih (n * 16 + hexC c) ⟨by omega, by omega, by rw [Int.pow_succ]; omega, by simp at hl ⊢; omega⟩
      simp only [phL, if_neg q, if_neg h5]
      rw [show 16 * n + hexC c = n * 16 + hexC c by omega]; exact this
theorem spec_ParseHex_ev (s : ByteArray) (hs : s.size ≤ 140737488351232) : Ev (fun k => spec_ParseHex.f k s) (parseHex s) := by
  refine str_loop_st s (fun i n k => spec_ParseHex.l0 k s n (i : Int)) phL (fun i n r => i ≤ 4 ∧ 0 ≤ n ∧ n < 16 ^ i ∧ i + r.length = s.size) ?_ ?_ hs 0 0 ⟨by omega, by omega, by simp, by simp [bytesOf_length]⟩
  · intro i n ⟨h4, h0, hn, hl⟩ hi
    simp at hl
    apply ev_succ; simp only [spec_ParseHex.l0, if_neg (show ¬ (i : Int) < s.size by omega)]
    apply ev_succ; simp only [spec_ParseHex.j1, if_neg (show ¬ false = true by simp), l1In_eq, Option.bind_some, phL]
    by_cases q : i = 0
    · subst q
      have h1 : s.size = 0 := by omega
      have h2 : n = 0 := by simp at hn; omega
      subst h2
      simpa [h1] using Ev.now ((0 : Int), false)
    · simp only [decide_eq_true (show (1 : Int) ≤ s.size by omega), decide_eq_true (show (s.size : Int) ≤ 4 by omega), Bool.and_self, if_true]
      simpa [q] using Ev.now (n, true)
  · intro i n c r ⟨h4, h0, hn, hl⟩ h hb hi hw hw1 ih
    have hc := bytesOf_range s c (List.mem_of_mem_drop (by rw [h]; simp : c ∈ (bytesOf s).drop i))
    have hd := hexC_range c
    have h16 := pow16 h4
    apply ev_succ
    simp only [spec_ParseHex.l0, if_pos (show (i : Int) < s.size by omega)]
    apply ev_succ
    simp only [spec_ParseHex.j1, decide_eq_true (show (i : Int) < 5 by omega), if_true, if_pos (show (i : Int) < s.size by omega), if_pos (show (0 : Int) ≤ i by omega), hb, hw1, l1HexOf_eq c hc.1 hc.2, Option.bind_some]
    refine ev_ite (fun q => ?_) (fun q => ?_)
    · simpa [phL, q] using Ev.now ((0 : Int), false)
    · rw [wrap_id (x := n * 16) (by omega) (by omega), wrap_id (by omega) (by omega)]
      by_cases q1 : i ≥ 4
      · simp only [phL, if_neg q, if_pos q1]
        have e4 : i = 4 := by omega
        subst e4
        apply ev_succ
        simp at hl
        have h5 : (s.size : Int) ≥ 5 := by omega
        by_cases q2 : ((4 + 1 : Nat) : Int) < s.size
        · simp only [spec_ParseHex.l0, if_pos q2]
          apply ev_succ
          simp only [spec_ParseHex.j1, decide_eq_false (show ¬ ((4 + 1 : Nat) : Int) < 5 by decide), if_neg (show ¬ false = true by simp), l1In_eq, Option.bind_some]
          simpa [decide_eq_false (show ¬ (s.size : Int) ≤ 4 by omega)] using Ev.now ((0 : Int), false)
        · simp only [spec_ParseHex.l0, if_neg q2]
          apply ev_succ
          simp only [spec_ParseHex.j1, if_neg (show ¬ false = true by simp), l1In_eq, Option.bind_some]
          simpa [decide_eq_false (show ¬ (s.size : Int) ≤ 4 by omega)] using Ev.now ((0 : Int), false)
      · simp only [phL, if_neg q, if_neg q1]
        exact ih (n * 16 + hexC c) ⟨by omega, by omega, by rw [Int.pow_succ]; omega, by simp at hl ⊢; omega⟩

def blankC (c : Int) : Bool := decide (c = 32) || decide (c = 9)
def trimL (l : List Int) : List Int := l.dropWhile blankC
def trimR (l : List Int) : List Int := (l.reverse.dropWhile blankC).reverse
theorem trimR_cons (c : Int) (r : List Int) : trimR (c :: r) = if trimR r = [] then (if blankC c = true then [] else [c]) else c :: trimR r := by
  unfold trimR
  rw [List.reverse_cons, List.dropWhile_append]
  by_cases h : r.reverse.dropWhile blankC = []
  · rw [h]
    by_cases q : blankC c = true
    · simp [q]
    · simp [q]
  · have : (r.reverse.dropWhile blankC).isEmpty = false := by simpa using h
    rw [this]
    simp [h]
theorem trim_comm : ∀ l : List Int, trimL (trimR l) = trimR (trimL l)
  | [] => rfl
  | c :: r => by
    have ih := trim_comm r
    rw [trimR_cons]
    by_cases q : blankC c = true
    · have e : trimL (c :: r) = trimL r := by unfold trimL; rw [List.dropWhile_cons_of_pos q]
      rw [e, ← ih]
      by_cases h : trimR r = []
      · rw [if_pos h, if_pos q, h]
      · rw [if_neg h]
        unfold trimL; rw [List.dropWhile_cons_of_pos q]
    · have e : ∀ x : List Int, trimL (c :: x) = c :: x := fun x => by unfold trimL; rw [List.dropWhile_cons_of_neg q]
      rw [e, trimR_cons]
      by_cases h : trimR r = []
      · rw [if_pos h, if_neg q]; exact e []
      · rw [if_neg h]; exact e _
def trim (s : ByteArray) : ByteArray := strOfNums (trimL (trimR (bytesOf s)))
theorem mem_trim {l : List Int} {x : Int} (h : x ∈ trimL (trimR l)) : x ∈ l := by
  unfold trimL trimR at h
  have h1 := (List.dropWhile_sublist _).subset h
  have h2 := (List.dropWhile_sublist _).subset (List.mem_reverse.1 h1)
  exact List.mem_reverse.1 h2
theorem trim_bytes (s : ByteArray) : bytesOf (trim s) = trimL (trimR (bytesOf s)) := bytesOf_strOfNums _ (fun x hx => bytesOf_range s x (mem_trim hx))
theorem trim_size (s : ByteArray) : (trim s).size ≤ s.size := by
  rw [size_len, trim_bytes, size_len]
  unfold trimL trimR
  have h1 := (List.dropWhile_sublist blankC (l := ((bytesOf s).reverse.dropWhile blankC).reverse)).length_le
  have h2 := (List.dropWhile_sublist blankC (l := (bytesOf s).reverse)).length_le
  simp only [List.length_reverse] at h1 h2
  omega
theorem dropWhile_map_ {α β : Type} (f : α → β) (p : β → Bool) : ∀ l : List α, (l.map f).dropWhile p = (l.dropWhile (fun x => p (f x))).map f
  | [] => rfl
  | x :: r => by
    rw [List.map_cons]
    by_cases q : p (f x) = true
    · rw [List.dropWhile_cons_of_pos q, List.dropWhile_cons_of_pos (by exact q), dropWhile_map_ f p r]
    · rw [List.dropWhile_cons_of_neg q, List.dropWhile_cons_of_neg (by exact q), List.map_cons]
theorem blank_u8 (b : UInt8) : ([32, 9] : List UInt8).contains b = blankC (b.toNat : Int) := by
  have H : ∀ n : Fin 256, ([32, 9] : List UInt8).contains (UInt8.ofNat n.val) = blankC (n.val : Int) := by decide +kernel
  have := H ⟨b.toNat, b.toNat_lt⟩
  simpa using this
theorem impl_Trim_eq (s : ByteArray) (hs : s.size ≤ 140737488351232) : impl_Trim.f s = some (trim s) := by
  unfold impl_Trim.f strings_Trim.f
  rw [if_pos ⟨by omega, by decide, by decide⟩]
  simp only [Option.bind_some]
  congr 1
  apply bytesOf_inj
  rw [trim_bytes, bytesOf_mk]
  unfold Lib.trimS Lib.trimLeftS Lib.trimRightS trimL trimR bytesOf
  have e : (fun x : UInt8 => ([32, 9] : List UInt8).contains x) = fun x => blankC (x.toNat : Int) := funext blank_u8
  show List.map _ (List.dropWhile (fun x => ([32, 9] : List UInt8).contains x) (List.dropWhile (fun x => ([32, 9] : List UInt8).contains x) s.data.toList.reverse).reverse) = _
  rw [e, ← List.map_reverse, dropWhile_map_, ← List.map_reverse, dropWhile_map_]
theorem l1Blank_eq (c : Int) : spec_l1Blank.f c = some (blankC c) := by
  unfold spec_l1Blank.f blankC
  by_cases h : c = 32
  · rw [if_pos h]; simp [h]
  · rw [if_neg h]; simp [h]; rfl
theorem bytesOf_one {x : ByteArray} {c : Int} {r : List Int} (h : bytesOf x = c :: r) : bt x 0 = c ∧ bytesOf (x.extract 1 x.size) = r ∧ x.size = r.length + 1 := by
  have hd : (bytesOf x).drop 0 = c :: r := by simpa using h
  obtain ⟨h1, h2, h3⟩ := bt_drop hd
  refine ⟨by simpa using h1, ?_, by rw [size_len, h]; rfl⟩
  rw [bytesOf_extract, List.take_of_length_le (by rw [← size_len]; exact Nat.le_refl _)]
  exact h3
theorem bytesOf_last {x : ByteArray} {c : Int} {r : List Int} (h : bytesOf x = r ++ [c]) : bt x (r.length : Int) = c ∧ bytesOf (x.extract 0 r.length) = r ∧ x.size = r.length + 1 := by
  have hd : (bytesOf x).drop r.length = [c] := by rw [h]; simp
  obtain ⟨h1, h2, h3⟩ := bt_drop hd
  refine ⟨h1, ?_, by rw [size_len, h]; simp⟩
  rw [bytesOf_extract, h]
  simp
theorem spec_Trim_l1 : ∀ (l : List Int) (x : ByteArray), bytesOf x = l.reverse → x.size ≤ 1048576 → Ev (fun k => spec_Trim.l1 k x) (strOfNums (trimR (bytesOf x)))
  | [], x, h, hs => by
    have h0 : x.size = 0 := by rw [size_len, h]; rfl
    apply ev_succ; simp only [spec_Trim.l1, if_neg (show ¬ (x.size : Int) > 0 by omega)]
    rw [h]
    have : x = strOfNums (trimR ([] : List Int).reverse) := by rw [← strOfNums_bytesOf x, h]; rfl
    rw [← this]; exact Ev.now _
  | c :: r, x, h, hs => by
    rw [List.reverse_cons] at h
    obtain ⟨h1, h2, h3⟩ := bytesOf_last h
    rw [List.length_reverse] at h1 h2 h3
    apply ev_succ
    simp only [spec_Trim.l1, if_pos (show (x.size : Int) > 0 by omega), show wrap64 ((x.size : Int) - 1) = (r.length : Int) from by rw [wrap_id (by omega) (by omega)]; omega, if_pos (show (0 : Int) ≤ (r.length : Int) by omega), if_pos (show (r.length : Int) < (x.size : Int) by omega), if_pos (show (r.length : Int) ≤ (x.size : Int) by omega), h1, l1Blank_eq, Option.bind_some, Int.toNat_natCast]
    refine ev_iteB (fun q => ?_) (fun q => ?_)
    · have ih := spec_Trim_l1 r (x.extract 0 r.length) h2 (by rw [size_len, h2, List.length_reverse]; omega)
      have e : trimR (bytesOf x) = trimR (bytesOf (x.extract 0 r.length)) := by
        rw [h, h2]
        unfold trimR
        rw [List.reverse_append, List.reverse_reverse]
        show (List.dropWhile blankC (c :: r)).reverse = _
        rw [List.dropWhile_cons_of_pos q]
      rw [e]; exact ih
    · have e : trimR (bytesOf x) = bytesOf x := by
        rw [h]
        unfold trimR
        rw [List.reverse_append, List.reverse_reverse]
        show (List.dropWhile blankC (c :: r)).reverse = _
        rw [List.dropWhile_cons_of_neg (by rw [q]; simp), List.reverse_cons]
      rw [e, strOfNums_bytesOf]; exact Ev.now _
theorem spec_Trim_l0 : ∀ (l : List Int) (x : ByteArray), bytesOf x = l → x.size ≤ 1048576 → Ev (fun k => spec_Trim.l0 k x) (strOfNums (trimR (trimL (bytesOf x))))
  | [], x, h, hs => by
    have h0 : x.size = 0 := by rw [size_len, h]; rfl
    apply ev_succ; simp only [spec_Trim.l0, if_neg (show ¬ (x.size : Int) > 0 by omega)]
    apply ev_succ; simp only [spec_Trim.j1]
    have := spec_Trim_l1 [] x h hs
    rwa [show trimL (bytesOf x) = bytesOf x by rw [h]; rfl]
  | c :: r, x, h, hs => by
    obtain ⟨h1, h2, h3⟩ := bytesOf_one h
    apply ev_succ
    simp only [spec_Trim.l0, if_pos (show (x.size : Int) > 0 by omega), if_pos (show (0 : Int) < (x.size : Int) by omega), if_pos (show (1 : Int) ≤ (x.size : Int) by omega), h1, l1Blank_eq, Option.bind_some]
    refine ev_iteB (fun q => ?_) (fun q => ?_)
    · have ih := spec_Trim_l0 r (x.extract 1 x.size) h2 (by rw [size_len, h2]; omega)
      have e : trimL (bytesOf x) = trimL (bytesOf (x.extract 1 x.size)) := by
        rw [h, h2]
        unfold trimL
        rw [List.dropWhile_cons_of_pos q]
      rw [e]; exact ih
    · have e : trimL (bytesOf x) = bytesOf x := by
        rw [h]
        unfold trimL
        rw [List.dropWhile_cons_of_neg (by rw [q]; simp)]
      rw [e]
      apply ev_succ; simp only [spec_Trim.j1]
      exact spec_Trim_l1 (bytesOf x).reverse x (by rw [List.reverse_reverse]) hs
theorem spec_Trim_ev (s : ByteArray) (hs : s.size ≤ 1048576) : Ev (fun k => spec_Trim.f k s) (trim s) := by
  unfold spec_Trim.f trim
  rw [trim_comm]
  exact spec_Trim_l0 _ s rfl hs

theorem isLarge_eq (c : Int) : impl_isLarge.f c = some (largeC c) := by
  unfold impl_isLarge.f largeC; split <;> simp [*] <;> omega

/-- a text in small letters, byte by byte -/
def lowC (c : Int) : Int := if largeC c = true then c + 32 else c
def lowL (l : List Int) : List Int := l.map lowC
theorem lowC_range {c : Int} (h : 0 ≤ c ∧ c < 256) : 0 ≤ lowC c ∧ lowC c < 256 := by
  unfold lowC largeC
  split
  · rename_i q
    simp at q
    omega
  · exact h
theorem lowC_mod {c : Int} (h : 0 ≤ c ∧ c < 256) (q : largeC c = true) : (c + 32) % 256 = lowC c := by
  have := lowC_range h
  unfold lowC at this ⊢
  rw [if_pos q] at this ⊢
  omega
theorem lowL_range {l : List Int} (h : ∀ x ∈ l, 0 ≤ x ∧ x < 256) : ∀ x ∈ lowL l, 0 ≤ x ∧ x < 256 := by
  intro x hx
  obtain ⟨c, hc, rfl⟩ := List.mem_map.1 hx
  exact lowC_range (h c hc)
def lower (s : ByteArray) : ByteArray := strOfNums (lowL (bytesOf s))
theorem impl_Lower_l0 (l : List Int) (hl : l.length ≤ 1048576) (hr : ∀ x ∈ l, 0 ≤ x ∧ x < 256) : ∀ n i, l.length - i = n → i ≤ l.length → Ev (fun k => impl_Lower.l0 k ((lowL l).take i ++ l.drop i) (l.length : Int) (i : Int)) (strOfNums (lowL l)) := by
  intro n
  induction n with
  | zero =>
    intro i hn hi
    have h0 : i = l.length := by omega
    subst h0
    apply ev_succ; simp only [impl_Lower.l0, if_neg (show ¬ ((l.length : Nat) : Int) < (l.length : Int) by omega)]
    simpa [lowL, List.take_of_length_le] using Ev.now _
  | succ n ih =>
    intro i hn hi
    have hlt : i < l.length := by omega
    have hll : (lowL l).length = l.length := by simp [lowL]
    have htl : ((lowL l).take i).length = i := by rw [List.length_take]; omega
    have hlen : ((lowL l).take i ++ l.drop i).length = l.length := by rw [List.length_append, htl, List.length_drop]; omega
    have hw1 : wrap64 ((i : Int) + 1) = ((i + 1 : Nat) : Int) := by rw [wrap_id (by omega) (by omega)]; rfl
    have hrd : rd ((lowL l).take i ++ l.drop i) (i : Int) = l[i] := by
      rw [rd, Int.toNat_natCast, List.getD_eq_getElem?_getD, List.getElem?_append_right (by omega), htl, List.getElem?_drop]
      simp [hlt]
    have hc := hr l[i] (List.getElem_mem _)
    have step : (lowL l).take (i + 1) ++ l.drop (i + 1) = (lowL l).take i ++ lowC l[i] :: l.drop (i + 1) := by
      rw [List.take_succ_eq_append_getElem (by omega)]
      simp [lowL]
    have hd : l.drop i = l[i] :: l.drop (i + 1) := List.drop_eq_getElem_cons hlt
    have ih' := ih (i + 1) (by omega) (by omega)
    rw [step] at ih'
    apply ev_succ
    simp only [impl_Lower.l0, if_pos (show (i : Int) < (l.length : Int) by omega), if_pos (show (0 : Int) ≤ i by omega), hlen, hrd, isLarge_eq, Option.bind_some, hw1]
    refine ev_ite (fun q => ?_) (fun q => ?_)
    · rw [Int.toNat_natCast, lowC_mod hc q, List.set_append_right _ _ (by omega), htl, Nat.sub_self, hd, List.set_cons_zero]
      exact ih'
    · rw [show lowC l[i] = l[i] by unfold lowC; rw [if_neg q], ← hd] at ih'
      exact ih'
theorem impl_Lower_ev (s : ByteArray) (hs : s.size ≤ 1048576) : Ev (fun k => impl_Lower.f k s) (lower s) := by
  unfold impl_Lower.f
  simp only [if_pos (show s.size < 140737488355328 by omega), Option.bind_some]
  have := impl_Lower_l0 (bytesOf s) (by rw [bytesOf_length]; exact hs) (bytesOf_range s) _ 0 rfl (Nat.zero_le _)
  simpa [lower] using this

theorem l1Large_eq (c : Int) (h : wrap64 c = c) : spec_l1Large.f c = some (largeC c) := by
  unfold spec_l1Large.f; rw [h, l1In_eq]; rfl

theorem spec_Lower_ev (s : ByteArray) (hs : s.size ≤ 1048576) : Ev (fun k => spec_Lower.f k s) (lower s) := by
  have := str_loop_st s (fun i (x : List Int) k => spec_Lower.l0 k s x (i : Int)) (fun i x r => strOfNums (x ++ lowL r)) (fun i x _ => x.length ≤ i) ?_ ?_ (by omega) 0 [] (by simp)
  · have h2 : Ev (fun k => spec_Lower.l0 k s [] 0) (lower s) := by simpa [lower] using this
    exact h2
  · intro i x _ hi
    apply ev_succ; simp only [spec_Lower.l0, if_neg (show ¬ (i : Int) < s.size by omega)]
    simpa [lowL] using Ev.now _
  · intro i x c r hx h hb hi hw hw1 ih
    have hc := bytesOf_range s c (List.mem_of_mem_drop (by rw [h]; simp))
    apply ev_succ
    simp only [spec_Lower.l0, if_pos (show (i : Int) < s.size by omega), if_pos (show (0 : Int) ≤ i by omega), hb, l1Large_eq c hw, Option.bind_some, hw1, if_pos (show x.length < 140737488355328 by omega)]
    have fin := ih (x ++ [lowC c]) (by simp; omega)
    simp only [List.append_assoc, List.cons_append, List.nil_append] at fin
    refine ev_ite (fun q => ?_) (fun q => ?_)
    · rw [lowC_mod hc q]; exact fin
    · rw [show c = lowC c by unfold lowC; rw [if_neg q]]
      have : lowC (lowC c) = lowC c := by rw [show lowC c = c by unfold lowC; rw [if_neg q]]; unfold lowC; rw [if_neg q]
      simpa [lowL, this] using fin

theorem wf_u8 {l : List Int} (h : ∀ x ∈ l, (Lit.int .u8 x).wf = true) : ∀ x ∈ l, 0 ≤ x ∧ x < 256 := by
  intro x hx
  have := h x hx
  simp [Lit.wf, IntKind.min, IntKind.max, IntKind.signed, IntKind.bits] at this
  omega
theorem hexC_dg (d : Nat) (h : d < 16) : hexC (hexDg d) = d := by
  have : ∀ d : Fin 16, hexC (hexDg d.val) = (d.val : Int) := by decide
  exact this ⟨d, h⟩
theorem phL_snoc : ∀ (l : List Int) (i : Nat) (n d : Int), i + l.length < 4 → (∀ c ∈ l, 0 ≤ hexC c) → 0 ≤ hexC d → phL i n (l ++ [d]) = ((phL i n l).1 * 16 + hexC d, true)
  | [], i, n, d, hi, _, hd => by
    simp only [List.length_nil] at hi
    simp only [List.nil_append, phL, if_neg (show ¬ hexC d < 0 by omega), if_neg (show ¬ i ≥ 4 by omega)]
    rfl
  | c :: l, i, n, d, hi, hl, hd => by
    simp only [List.length_cons] at hi
    have hc := hl c (by simp)
    simp only [List.cons_append, phL, if_neg (show ¬ hexC c < 0 by omega), if_neg (show ¬ i ≥ 4 by omega)]
    exact phL_snoc l (i + 1) _ d (by omega) (fun x hx => hl x (by simp [hx])) hd
theorem hexN_C (u : Nat) : ∀ c ∈ hexN u, 0 ≤ hexC c := by
  induction u using Nat.strongRecOn with
  | _ u ih =>
    intro c h
    rcases Nat.lt_or_ge 15 u with h9 | h9
    · rw [hexN_step u h9, List.mem_append] at h
      rcases h with h | h
      · exact ih (u / 16) (by omega) c h
      · simp only [List.mem_cons, List.not_mem_nil, or_false] at h
        rw [h, hexC_dg _ (Nat.mod_lt _ (by decide))]; omega
    · rw [hexN_low u h9] at h
      simp only [List.mem_cons, List.not_mem_nil, or_false] at h
      rw [h, hexC_dg _ (by omega)]; omega
theorem phL_hexN : ∀ (k u : Nat), k ≤ 3 → u < 16 ^ (k + 1) → phL 0 0 (hexN u) = ((u : Int), true)
  | k, u, hk, hu => by
    rcases Nat.lt_or_ge 15 u with h9 | h9
    · match k, hk, hu with
      | 0, _, hu => omega
      | k + 1, hk, hu =>
        have hu2 : u / 16 < 16 ^ (k + 1) := by rw [Nat.pow_succ] at hu; omega
        have hl := hexN_len k (u / 16) hu2
        rw [hexN_step u h9, phL_snoc _ 0 0 _ (by omega) (hexN_C _) (by rw [hexC_dg _ (Nat.mod_lt _ (by decide))]; omega), phL_hexN k (u / 16) (by omega) hu2, hexC_dg _ (Nat.mod_lt _ (by decide))]
        simp only [Prod.mk.injEq, and_true]
        omega
    · rw [hexN_low u h9]
      have := phL_snoc [] 0 0 (hexDg u) (by simp) (by simp) (by rw [hexC_dg _ (by omega)]; omega)
      rw [List.nil_append] at this
      rw [this, hexC_dg _ (by omega)]
      simp [phL]
theorem pnum_back (s : ByteArray) (most : Int) (h : (pnum s most).2 = true) : strOfNums (numD (pnum s most).1.toNat) = s := by
  unfold pnum at *
  cases hd : decL 0 (bytesOf s) with
  | none => rw [hd] at h; cases h
  | some n =>
    rw [hd] at h
    simp only [] at h ⊢
    split at h
    · rename_i hq
      rw [if_pos hq]
      have hl := bytesOf_length s
      have := numD_dec (s.size - 1) (bytesOf s) n (by omega) hd (by
        rcases Nat.eq_zero_or_pos (s.size - 1) with e | e
        · exact .inl e
        · exact .inr fun r hr => hq.2.2.1 ⟨by omega, by rw [hr]; rfl⟩)
      show strOfNums (numD n.toNat) = s
      rw [this, strOfNums_bytesOf]
    · cases h
theorem trimL_idem : ∀ l : List Int, trimL (trimL l) = trimL l
  | [] => rfl
  | c :: l => by
    unfold trimL
    by_cases q : blankC c = true
    · have := trimL_idem l
      unfold trimL at this
      simp only [List.dropWhile_cons, if_pos q]; exact this
    · simp only [List.dropWhile_cons, if_neg q]
theorem trimR_idem (l : List Int) : trimR (trimR l) = trimR l := by
  have := trimL_idem l.reverse
  unfold trimR
  unfold trimL at this
  rw [List.reverse_reverse, this]
theorem trim_idem (s : ByteArray) : trim (trim s) = trim s := by
  apply bytesOf_inj
  rw [trim_bytes (trim s), trim_bytes s]
  have h1 : trimR (trimL (trimR (bytesOf s))) = trimL (trimR (bytesOf s)) := by
    rw [trim_comm, trimR_idem]
  rw [h1, trimL_idem]
theorem lower_idem (s : ByteArray) : lower (lower s) = lower s := by
  have hr := lowL_range (bytesOf_range s)
  have hb : bytesOf (lower s) = lowL (bytesOf s) := bytesOf_strOfNums _ hr
  show strOfNums (lowL (bytesOf (lower s))) = _
  rw [hb]
  show _ = strOfNums (lowL (bytesOf s))
  congr 1
  unfold lowL
  rw [List.map_map]
  refine List.map_congr_left fun c _ => ?_
  show lowC (lowC c) = lowC c
  unfold lowC largeC
  by_cases q : (decide (65 ≤ c) && decide (c ≤ 90)) = true
  · rw [if_pos q]
    simp only [Bool.and_eq_true, decide_eq_true_eq] at q
    rw [if_neg]
    simp only [Bool.and_eq_true, decide_eq_true_eq]; omega
  · rw [if_neg q, if_neg q]
theorem lower_size (s : ByteArray) : (lower s).size = s.size := by
  have hb : bytesOf (lower s) = lowL (bytesOf s) := bytesOf_strOfNums _ (lowL_range (bytesOf_range s))
  rw [← bytesOf_length, hb, lowL, List.length_map, bytesOf_length]
theorem at_eq (l : List Int) (hl : l.length ≤ 1048576) (hr : ∀ x ∈ l, 0 ≤ x ∧ x < 256) (a : Int) (h0 : 0 ≤ a) (h9 : a ≤ 9) : ∃ v, laws_at.f l a = some v ∧ 0 ≤ v ∧ v ≤ 255 := by
  unfold laws_at.f
  by_cases q : a < (l.length : Int)
  · rw [if_pos q, if_pos h0]
    have hn : a.toNat < l.length := by omega
    have he : rd l a = l[a.toNat] := by rw [rd, List.getD_eq_getElem?_getD, List.getElem?_eq_getElem hn, Option.getD_some]
    have := hr _ (List.getElem_mem hn)
    refine ⟨_, rfl, ?_⟩
    rw [he, wrap_id (by omega) (by omega)]; omega
  · rw [if_neg q]
    refine ⟨_, rfl, ?_⟩
    rw [wrap_id (x := a * 31) (by omega) (by omega), wrap_id (x := (l.length : Int) * 7) (by omega) (by omega), wrap_id (by omega) (by omega)]
    have := tmod_range (a * 31 + (l.length : Int) * 7) 256 (by omega) (by omega)
    omega
theorem DrawParseNum_dr (l : List Int) (hl : l.length ≤ 1048576) : ∃ s m, Ev (fun k => spec_DrawParseNum.f k l) (s, m) ∧ s.size ≤ 100 := by
  obtain ⟨h, hn⟩ := l1New_ev l hl
  obtain ⟨n, i1, e1, f1, p1, a1, b1⟩ := l1Num_dr l 0 h hl (by omega) (by omega)
  obtain ⟨o, i2, e2, f2, p2, a2, b2⟩ := l1Once_dr 3 l i1 e1 hl a1 b1
  have f2' : spec_l1Once.f l i1 e1 3 = some (o, i2, e2) := f2
  have hnum := spec_NumText_ev n p1.2
  unfold spec_DrawParseNum.f
  cases o with
  | true =>
    obtain ⟨x, i3, e3, f3, p3, a3, b3⟩ := l1Str_dr [(⟨#[]⟩ : ByteArray), (⟨#[48, 48]⟩ : ByteArray), (⟨#[48, 49]⟩ : ByteArray), (⟨#[120]⟩ : ByteArray), (⟨#[49, 120]⟩ : ByteArray), (⟨#[45, 49]⟩ : ByteArray), (⟨#[49, 50, 51, 52, 53, 54, 55, 56]⟩ : ByteArray), (⟨#[57, 57, 57, 57, 57, 57, 57]⟩ : ByteArray)] (by decide) l i2 e2 hl a2 b2
    have f3' : spec_l1Str.f l i2 e2 _ = some (x, i3, e3) := f3
    have hx : x.size ≤ 9 := (by decide : ∀ x ∈ _, x.size ≤ 9) x p3
    obtain ⟨m, i4, e4, f4, p4, a4, b4⟩ := l1Int_dr [100, 9999999, 0, (-1), 9223372036854775807] (by decide) l i3 e3 hl a3 b3
    have f4' : spec_l1Int.f l i3 e3 _ = some (m, i4, e4) := f4
    refine ⟨x, m, ?_, by omega⟩
    refine Ev.bind hn ?_
    simp only [f1, Option.bind_some]
    refine Ev.bind hnum ?_
    simp only [f2', Option.bind_some, if_true, f3', f4']
    exact Ev.now _
  | false =>
    obtain ⟨m, i4, e4, f4, p4, a4, b4⟩ := l1Int_dr [100, 9999999, 0, (-1), 9223372036854775807] (by decide) l i2 e2 hl a2 b2
    have f4' : spec_l1Int.f l i2 e2 _ = some (m, i4, e4) := f4
    refine ⟨strOfNums (numD n.toNat), m, ?_, ?_⟩
    · refine Ev.bind hn ?_
      simp only [f1, Option.bind_some]
      refine Ev.bind hnum ?_
      simp only [f2', Option.bind_some, Bool.false_eq_true, if_false, f4']
      exact Ev.now _
    · rw [size_len, bytesOf_strOfNums _ (numD_range _)]
      have := numD_len 19 n.toNat (by omega)
      omega
theorem DrawParseHex_dr (l : List Int) (hl : l.length ≤ 1048576) : ∃ s, Ev (fun k => spec_DrawParseHex.f k l) s ∧ s.size ≤ 100 := by
  obtain ⟨h, hn⟩ := l1New_ev l hl
  obtain ⟨n, i1, e1, f1, p1, a1, b1⟩ := l1Num_dr l 0 h hl (by omega) (by omega)
  obtain ⟨o, i2, e2, f2, p2, a2, b2⟩ := l1Once_dr 3 l i1 e1 hl a1 b1
  have f2' : spec_l1Once.f l i1 e1 3 = some (o, i2, e2) := f2
  have hnum := spec_Hex_ev n p1.2
  unfold spec_DrawParseHex.f
  cases o with
  | true =>
    obtain ⟨x, i3, e3, f3, p3, a3, b3⟩ := l1Str_dr [(⟨#[]⟩ : ByteArray), (⟨#[48]⟩ : ByteArray), (⟨#[48, 48, 102, 102]⟩ : ByteArray), (⟨#[70, 70]⟩ : ByteArray), (⟨#[103]⟩ : ByteArray), (⟨#[49, 50, 51, 52, 53]⟩ : ByteArray), (⟨#[97, 32, 98]⟩ : ByteArray), (⟨#[45, 49]⟩ : ByteArray)] (by decide) l i2 e2 hl a2 b2
    have f3' : spec_l1Str.f l i2 e2 _ = some (x, i3, e3) := f3
    have hx : x.size ≤ 9 := (by decide : ∀ x ∈ _, x.size ≤ 9) x p3
    refine ⟨x, ?_, by omega⟩
    refine Ev.bind hn ?_
    simp only [f1, Option.bind_some]
    refine Ev.bind hnum ?_
    simp only [f2', Option.bind_some, if_true, f3']
    exact Ev.now _
  | false =>
    refine ⟨strOfNums (hexN n.toNat), ?_, ?_⟩
    · refine Ev.bind hn ?_
      simp only [f1, Option.bind_some]
      refine Ev.bind hnum ?_
      simp only [f2', Option.bind_some, Bool.false_eq_true, if_false]
      exact Ev.now _
    · rw [size_len, bytesOf_strOfNums _ (hexN_range _)]
      have := hexN_len 15 n.toNat (by omega)
      omega
theorem DrawTrim_dr (l : List Int) (hl : l.length ≤ 1048576) : ∃ s, Ev (fun k => spec_DrawTrim.f k l) s ∧ s.size ≤ 100 := by
  obtain ⟨h, hn⟩ := l1New_ev l hl
  obtain ⟨x, i1, e1, f1, p1, a1, b1⟩ := l1Str_dr [(⟨#[]⟩ : ByteArray), (⟨#[32]⟩ : ByteArray), (⟨#[9, 32]⟩ : ByteArray)] (by decide) l 0 h hl (by omega) (by omega)
  have f1' : spec_l1Str.f l 0 h _ = some (x, i1, e1) := f1
  have hx : x.size ≤ 9 := (by decide : ∀ x ∈ _, x.size ≤ 9) x p1
  obtain ⟨y, i2, e2, f2, p2, a2, b2⟩ := l1Text_dr l i1 e1 hl a1 b1
  obtain ⟨z, i3, e3, f3, p3, a3, b3⟩ := l1Str_dr [(⟨#[]⟩ : ByteArray), (⟨#[32]⟩ : ByteArray), (⟨#[32, 9]⟩ : ByteArray)] (by decide) l i2 e2 hl a2 b2
  have f3' : spec_l1Str.f l i2 e2 _ = some (z, i3, e3) := f3
  have hz : z.size ≤ 9 := (by decide : ∀ x ∈ _, x.size ≤ 9) z p3
  refine ⟨(x ++ y) ++ z, ?_, by simp only [ByteArray.size_append]; omega⟩
  unfold spec_DrawTrim.f
  refine Ev.bind hn ?_
  simp only [f1', f2, f3', Option.bind_some, ByteArray.size_append, if_pos (show x.size + y.size ≤ 9223372036854775807 by omega), if_pos (show x.size + y.size + z.size ≤ 9223372036854775807 by omega)]
  exact Ev.now _
theorem DrawLower_dr (l : List Int) (hl : l.length ≤ 1048576) : ∃ s, Ev (fun k => spec_DrawLower.f k l) s ∧ s.size ≤ 100 := by
  obtain ⟨h, hn⟩ := l1New_ev l hl
  obtain ⟨y, i2, e2, f2, p2, a2, b2⟩ := l1Text_dr l 0 h hl (by omega) (by omega)
  obtain ⟨z, i3, e3, f3, p3, a3, b3⟩ := l1Str_dr [(⟨#[]⟩ : ByteArray), (⟨#[65, 66, 67, 90]⟩ : ByteArray), (⟨#[91, 64]⟩ : ByteArray)] (by decide) l i2 e2 hl a2 b2
  have f3' : spec_l1Str.f l i2 e2 _ = some (z, i3, e3) := f3
  have hz : z.size ≤ 9 := (by decide : ∀ x ∈ _, x.size ≤ 9) z p3
  refine ⟨y ++ z, ?_, by rw [ByteArray.size_append]; omega⟩
  unfold spec_DrawLower.f
  refine Ev.bind hn ?_
  simp only [f2, f3', Option.bind_some, if_pos (show y.size + z.size ≤ 9223372036854775807 by omega)]
  exact Ev.now _
theorem FnSmall : laws_FnSmall.Pure := by
  intro l hw _
  apply Ev.rounds
  have hr := wf_u8 hw.2
  unfold laws_FnSmall.f laws_big.f
  simp only [Option.bind_some]
  refine ev_iteB (fun _ => Ev.now _) (fun q => ?_)
  have hl : l.length ≤ 1048576 := by
    have := of_decide_eq_false q
    omega
  obtain ⟨a, ha, a0, a9⟩ := at_eq l hl hr 2 (by omega) (by omega)
  obtain ⟨b, hb, b0, b9⟩ := at_eq l hl hr 3 (by omega) (by omega)
  have hab : wrap64 ((wrap64 (a * 256)) + b) = a * 256 + b := by rw [wrap_id (x := a * 256) (by omega) (by omega), wrap_id (by omega) (by omega)]
  obtain ⟨n, hn⟩ : ∃ n : Nat, a * 256 + b = (n : Int) := ⟨(a * 256 + b).toNat, by omega⟩
  have hn9 : n ≤ 65535 := by omega
  have h1 : impl_NumText.f (n : Int) = some (strOfNums (numD n)) := by rw [impl_NumText_eq _ (by omega), Int.toNat_natCast]
  have hd1 : bytesOf (strOfNums (numD n)) = numD n := bytesOf_strOfNums _ (numD_range _)
  have hd2 : (strOfNums (numD n)).size ≤ 7 := by
    rw [size_len, hd1]
    have := numD_len 6 n (by omega)
    omega
  have h2 : impl_ParseNum.f (strOfNums (numD n)) 65535 = some ((n : Int), true) := by
    rw [impl_ParseNum_eq _ _ (by omega), pnum_yes _ _ n hd1 hd2 (by omega)]
  have h3 : impl_Hex.f (n : Int) = some (strOfNums (hexN n)) := by rw [impl_Hex_eq _ (by omega), Int.toNat_natCast]
  have hh1 : bytesOf (strOfNums (hexN n)) = hexN n := bytesOf_strOfNums _ (hexN_range _)
  have hh2 : (strOfNums (hexN n)).size ≤ 7 := by
    rw [size_len, hh1]
    have := hexN_len 3 n (by omega)
    omega
  have h4 : Ev (fun k => impl_ParseHex.f k (strOfNums (hexN n))) ((n : Int), true) := by
    have := impl_ParseHex_ev (strOfNums (hexN n)) (by omega)
    unfold parseHex at this
    rw [hh1, phL_hexN 3 n (by omega) (by omega)] at this
    exact this
  obtain ⟨s, m, es, hs⟩ := DrawParseNum_dr l hl
  obtain ⟨x, ex, hx⟩ := DrawParseHex_dr l hl
  obtain ⟨t, et, ht⟩ := DrawTrim_dr l hl
  obtain ⟨u, eu, hu⟩ := DrawLower_dr l hl
  simp only [ha, hb, hab, hn, Option.bind_some, h1, h2, h3]
  refine Ev.bind h4 ?_
  refine Ev.bind es ?_
  simp only [impl_ParseNum_eq s m (by omega), Option.bind_some]
  refine Ev.bind (spec_ParseNum_ev s m (by omega)) ?_
  refine Ev.bind ex (Ev.bind (impl_ParseHex_ev x (by omega)) (Ev.bind (spec_ParseHex_ev x (by omega)) (Ev.bind et ?_)))
  have i1 := impl_Trim_eq t (by omega)
  simp only [i1, Option.bind_some]
  have j1 := impl_Lower_ev u (by omega)
  refine Ev.bind eu (Ev.bind j1 ?_)
  simp only [if_true, beq_self_eq_true]
  have hts := trim_size t
  have i2 := impl_Trim_eq (trim t) (by omega)
  rw [trim_idem] at i2
  have j2 := impl_Lower_ev (lower u) (by rw [lower_size]; omega)
  rw [lower_idem] at j2
  have fin : Ev (fun k => (spec_DrawTrim.f k l).bind fun t294 => ((spec_Trim.f k t294).bind fun t295 => (if (trim t).toList = t295.toList then ((impl_Lower.f k (lower u)).bind fun t296 => (if t296.toList = (lower u).toList then ((spec_DrawLower.f k l).bind fun t297 => ((spec_Lower.f k t297).bind fun t298 => (some ((lower u).toList == t298.toList)))) else (some false))) else (some false)))) true := by
    refine Ev.bind et (Ev.bind (spec_Trim_ev t (by omega)) ?_)
    simp only [if_true]
    refine Ev.bind j2 ?_
    simp only [if_true]
    refine Ev.bind eu (Ev.bind (spec_Lower_ev u (by omega)) ?_)
    simpa using Ev.now true
  refine ev_iteB (fun q1 => ?_) (fun _ => ?_)
  · have hb2 := pnum_back s m q1
    have hbd := pnum_bound s m q1
    have h5 : impl_NumText.f (pnum s m).1 = some s := by
      have h7 : (pnum s m).1 ≤ 9223372036854775807 := by
        have hdl : decL 0 (bytesOf s) ≠ none ∧ s.size ≤ 7 := by
          unfold pnum at q1
          cases hd : decL 0 (bytesOf s) with
          | none => rw [hd] at q1; cases q1
          | some n =>
            rw [hd] at q1
            simp only [] at q1
            split at q1
            · rename_i hq; exact ⟨by simp, hq.2.1⟩
            · cases q1
        have hz : (numD (pnum s m).1.toNat).length ≤ 7 := by
          have := congrArg ByteArray.size hb2
          rw [size_len, bytesOf_strOfNums _ (numD_range _)] at this
          omega
        have hlt := (decL_le _ 0 _ (by omega) (decL_numD (pnum s m).1.toNat)).2
        have h3 : (10 : Int) ^ (numD (pnum s m).1.toNat).length ≤ 10 ^ 7 := by
          have := Nat.pow_le_pow_right (n := 10) (by decide) hz
          exact_mod_cast this
        have e7 : (10 : Int) ^ 7 = 10000000 := by decide
        omega
      rw [impl_NumText_eq _ h7, hb2]
    simp only [h5, Option.bind_some, if_true, i2]
    exact fin
  · simp only [i2, Option.bind_some, if_true]
    exact fin

end Go.Proofs.YtgfpiijpgpkoiabDoor.Pure
