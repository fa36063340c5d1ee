/- Drawn pieces come back of their texts, one behind the other; of any drawn text the pieces are the reference's, and so is a piece's text, for all codes; no condition. -/
import Derived.Test.YtfncjddolbghlaaDoorGFnPiecesx11
import Derived.Test.YtfncjddolbghlaaDoorBase
import Derived.Lib.Bytealg
import Derived.Lib.IndexMore
import Derived.Lib.Index
import Derived.Lib.ItoaNum
import Derived.Lib.AtoiTie
namespace Go.Proofs.YtfncjddolbghlaaDoor.Pure
open Go.RowKit Go.Proofs.YtfncjddolbghlaaDoor.GFnPieces Go.Proofs.YtfncjddolbghlaaDoor.Base Go.Proofs.YtfncjddolbghlaaDoorW.PrintWords Go.Proofs.YtfncjddolbghlaaDoorW.PrintLast
set_option linter.unusedVariables false
set_option linter.unusedSimpArgs false


/-- byte classes -/
def plainC (c : Int) : Bool := decide (32 ≤ c) && decide (c ≤ 126)
def smallC (c : Int) : Bool := decide (97 ≤ c) && decide (c ≤ 122)
def digitC (c : Int) : Bool := decide (48 ≤ c) && decide (c ≤ 57)
def largeC (c : Int) : Bool := decide (65 ≤ c) && decide (c ≤ 90)

/-- the marks' names -/
def escC (c : Int) : List Int := if c = 38 then [38, 97, 109, 112, 59] else if c = 60 then [38, 108, 116, 59] else if c = 62 then [38, 103, 116, 59] else if c = 34 then [38, 113, 117, 111, 116, 59] else [c]
def escL (l : List Int) : List Int := l.flatMap escC
theorem escC_len (c : Int) : (escC c).length ≤ 6 := by
  unfold escC
  repeat' split
  all_goals simp
theorem impl_Escape_l0 {s : ByteArray} (hs : s.size ≤ 140737488351232) : ∀ (i : Nat) (x : ByteArray), x.size ≤ 6 * i → Ev (fun k => impl_Escape.l0 k s x (i : Int)) (strOfNums (bytesOf x ++ escL ((bytesOf s).drop i))) := by
  refine str_loop_st s (fun i x k => impl_Escape.l0 k s x (i : Int)) (fun i x r => strOfNums (bytesOf x ++ escL r)) (fun i x _ => x.size ≤ 6 * i) ?_ ?_ hs
  · intro i x _ hi
    apply ev_succ; simp only [impl_Escape.l0, if_neg (show ¬ (i : Int) < s.size by omega)]
    simpa [escL, strOfNums_bytesOf] using Ev.now x
  · intro i x c r hx h hb hi hw hw1 ih
    apply ev_succ
    have e1 := extract_one h
    have e1s : (s.extract i (i + 1)).size = 1 := by rw [size_len, e1]; rfl
    simp only [impl_Escape.l0, if_pos (show (i : Int) < s.size by omega), if_pos (show (0 : Int) ≤ i by omega), hb, hw1, if_pos (show x.size + 5 ≤ 9223372036854775807 by omega), if_pos (show x.size + 4 ≤ 9223372036854775807 by omega), if_pos (show x.size + 6 ≤ 9223372036854775807 by omega),
      if_pos (show (i : Int) ≤ ((i + 1 : Nat) : Int) by omega), if_pos (show ((i + 1 : Nat) : Int) ≤ s.size by omega), Int.toNat_natCast, e1s, if_pos (show x.size + 1 ≤ 9223372036854775807 by omega)]
    have fin : ∀ y : ByteArray, bytesOf y = escC c → Ev (fun k => impl_Escape.l0 k s (x ++ y) ((i + 1 : Nat) : Int)) (strOfNums (bytesOf x ++ escL (c :: r))) := by
      intro y hy
      have h6 := escC_len c
      have := ih (x ++ y) (by rw [ByteArray.size_append, size_len y, hy]; omega)
      rw [cat_ev hy] at this
      simpa [escL] using this
    refine ev_ite (fun h => fin _ ?_) (fun h => ev_ite (fun h0 => fin _ ?_) (fun h0 => ev_ite (fun h1 => fin _ ?_) (fun h1 => ev_ite (fun h2 => fin _ ?_) (fun h2 => fin _ ?_))))
    · simp [escC, h]; rfl
    · simp [escC, h0]; rfl
    · simp [escC, h1]; rfl
    · simp [escC, h2]; rfl
    · simpa [escC, h, h0, h1, h2] using e1
theorem impl_Escape_ev (s : ByteArray) (hs : s.size ≤ 140737488351232) : Ev (fun k => impl_Escape.f k s) (strOfNums (escL (bytesOf s))) :=
  impl_Escape_l0 hs 0 (⟨#[]⟩ : ByteArray) (Nat.le_refl 0)
theorem Escape_same : ∀ k (s x : ByteArray) (i : Int), spec_Escape.l0 k s x i = impl_Escape.l0 k s x i
  | 0, _, _, _ => rfl
  | k + 1, s, x, i => by simp only [spec_Escape.l0, impl_Escape.l0, Escape_same k]
theorem spec_Escape_ev (s : ByteArray) (hs : s.size ≤ 140737488351232) : Ev (fun k => spec_Escape.f k s) (strOfNums (escL (bytesOf s))) :=
  Ev.congr (fun k => Escape_same k s _ _) (impl_Escape_ev s hs)

theorem lit_iff (s : ByteArray) (l : List UInt8) : s.toList = l ↔ bytesOf s = l.map fun b => (b.toNat : Int) := by
  rw [Lib.toList_data]
  unfold bytesOf
  constructor
  · intro h; rw [h]
  · intro h; exact List.map_inj_right (fun x y hxy => UInt8.toNat_inj.mp (by omega)) |>.mp h
theorem indexByte_mem : ∀ (l : List UInt8) (c : UInt8), 0 ≤ Lib.indexByte l c ↔ c ∈ l
  | [], c => by simp [Lib.indexByte]
  | b :: l, c => by
    have ih := indexByte_mem l c
    have hg := Lib.indexByte_ge l c
    simp only [Lib.indexByte]
    by_cases h : b = c
    · subst h; simp
    · have h' : (b == c) = false := by simpa using h
      have h2 : ¬ c = b := fun e => h e.symm
      rw [h']
      simp only [Bool.false_eq_true, if_false, List.mem_cons, h2, false_or, ← ih]
      by_cases q : Lib.indexByte l c = -1
      · simp [q]
      · have : (Lib.indexByte l c == -1) = false := by simpa using q
        rw [this]; simp only [Bool.false_eq_true, if_false]; omega
theorem mem_bytes (s : ByteArray) (c : UInt8) : c ∈ s.data.toList ↔ (c.toNat : Int) ∈ bytesOf s := by
  unfold bytesOf
  rw [List.mem_map]
  constructor
  · intro h; exact ⟨c, h, rfl⟩
  · rintro ⟨d, hd, he⟩
    have : d = c := UInt8.toNat_inj.mp (by omega)
    rw [← this]; exact hd

/-- what stands ahead of a byte, and from it on -/
def tkC (c : Int) (r : List Int) : List Int := r.takeWhile fun x => decide (x ≠ c)
def drC (c : Int) (r : List Int) : List Int := r.dropWhile fun x => decide (x ≠ c)
theorem tk_dr (c : Int) (r : List Int) : tkC c r ++ drC c r = r := List.takeWhile_append_dropWhile
theorem tkC_no (c : Int) : ∀ r, c ∉ tkC c r
  | [] => by simp [tkC]
  | x :: r => by
    unfold tkC
    rw [List.takeWhile_cons]
    split
    · rename_i h
      have h2 := tkC_no c r
      unfold tkC at h2
      simp only [decide_eq_true_eq] at h
      simp only [List.mem_cons, not_or]
      exact ⟨fun e => h e.symm, h2⟩
    · simp
theorem drC_head {c : Int} {r : List Int} {a : Int} {u : List Int} (h : drC c r = a :: u) : a = c := by
  have := List.head_dropWhile_not (p := fun x : Int => decide (x ≠ c)) (l := r) (by unfold drC at h; rw [h]; simp)
  unfold drC at h
  simp only [h, List.head_cons] at this
  simpa using this
theorem drC_len (c : Int) (r : List Int) : (tkC c r).length + (drC c r).length = r.length := by rw [← List.length_append, tk_dr]
theorem index_one (c : UInt8) : ∀ l : List UInt8, Lib.index l [c] = if (l.dropWhile fun x => decide (x ≠ c)) = [] then -1 else ((l.takeWhile fun x => decide (x ≠ c)).length : Int)
  | [] => rfl
  | b :: l => by
    have ih := index_one c l
    rw [Lib.index]
    simp only [List.isPrefixOf, Bool.and_true]
    by_cases q : b = c
    · subst q
      simp
    · have q1 : ¬ c = b := fun e => q e.symm
      have q2 : (c == b) = false := by simpa using q1
      rw [q2, if_neg (by simp), ih, List.dropWhile_cons, List.takeWhile_cons]
      simp only [ne_eq, q, not_false_iff, decide_true, if_true]
      by_cases q3 : (l.dropWhile fun x => decide (¬ x = c)) = []
      · simp only [ne_eq, q3, if_true]; rfl
      · simp only [ne_eq, if_neg q3]
        rw [if_neg (by simp only [beq_iff_eq]; omega)]
        simp
theorem cut_u8 (c : UInt8) (l : List UInt8) : Lib.cut l [c] = (l.takeWhile (fun x => decide (x ≠ c)), (l.dropWhile fun x => decide (x ≠ c)).tail, decide ((l.dropWhile fun x => decide (x ≠ c)) ≠ [])) := by
  have ha := List.takeWhile_append_dropWhile (p := fun x => decide (x ≠ c)) (l := l)
  unfold Lib.cut
  rw [index_one]
  generalize (l.takeWhile fun x => decide (x ≠ c)) = t at ha
  generalize (l.dropWhile fun x => decide (x ≠ c)) = d at ha
  by_cases q : d = []
  · subst q
    rw [List.append_nil] at ha
    rw [if_pos rfl, if_neg (by decide), ha]
    rfl
  · rw [if_neg q, if_pos (by omega)]
    subst ha
    simp only [Int.toNat_natCast, List.length_cons, List.length_nil, List.take_left, Nat.zero_add, decide_eq_true q, ne_eq, not_false_iff]
    cases d with
    | nil => exact absurd rfl q
    | cons x u =>
      refine Prod.ext rfl (Prod.ext ?_ rfl)
      show List.drop (t.length + 1) (t ++ x :: u) = u
      rw [show t ++ x :: u = (t ++ [x]) ++ u by simp]
      exact List.drop_left' (by simp)
theorem map_tk (c : UInt8) (l : List UInt8) : (l.takeWhile fun x => decide (x ≠ c)).map (fun b => (b.toNat : Int)) = tkC (c.toNat : Int) (l.map fun b => (b.toNat : Int)) := by
  unfold tkC
  rw [List.takeWhile_map]
  congr 2
  funext x
  simp only [Function.comp, decide_eq_decide]
  constructor
  · intro h e; exact h (UInt8.toNat_inj.1 (by omega))
  · intro h e; exact h (by rw [e])
theorem map_dr (c : UInt8) (l : List UInt8) : (l.dropWhile fun x => decide (x ≠ c)).map (fun b => (b.toNat : Int)) = drC (c.toNat : Int) (l.map fun b => (b.toNat : Int)) := by
  unfold drC
  rw [List.dropWhile_map]
  congr 2
  funext x
  simp only [Function.comp, decide_eq_decide]
  constructor
  · intro h e; exact h (UInt8.toNat_inj.1 (by omega))
  · intro h e; exact h (by rw [e])
theorem cut_one (s : ByteArray) (c : UInt8) (h : s.size < 4294967281) : ∃ a b, strings_Cut.f s (⟨#[c]⟩ : ByteArray) = some (a, b, decide (drC (c.toNat : Int) (bytesOf s) ≠ [])) ∧ bytesOf a = tkC (c.toNat : Int) (bytesOf s) ∧ bytesOf b = (drC (c.toNat : Int) (bytesOf s)).tail := by
  have hb : bytesOf s = s.data.toList.map fun b => (b.toNat : Int) := rfl
  refine ⟨⟨(Lib.cut s.data.toList [c]).1.toArray⟩, ⟨(Lib.cut s.data.toList [c]).2.1.toArray⟩, ?_, ?_, ?_⟩
  · unfold strings_Cut.f
    rw [if_pos h, show ((⟨#[c]⟩ : ByteArray).data.toList) = [c] from rfl, cut_u8]
    rw [hb, ← map_dr]
    simp only [ne_eq, List.map_eq_nil_iff]
  · rw [bytesOf_mk, cut_u8, map_tk, hb]
  · rw [bytesOf_mk, cut_u8]
    show (List.dropWhile _ _).tail.map _ = _
    rw [List.map_tail, map_dr]
    rfl
theorem contains_one (s : ByteArray) (c : UInt8) : strings_Contains.f s (⟨#[c]⟩ : ByteArray) = some (decb ((c.toNat : Int) ∈ bytesOf s)) := by
  have e0 : strings_Contains.f s (⟨#[c]⟩ : ByteArray) = some (decide (0 ≤ Lib.indexByte s.data.toList c)) := rfl
  rw [e0]
  congr 1
  have hb : bytesOf s = s.data.toList.map fun b => (b.toNat : Int) := rfl
  rw [Bool.eq_iff_iff, decide_eq_true_eq, decb_iff, indexByte_mem, hb, List.mem_map]
  constructor
  · intro h; exact ⟨c, h, rfl⟩
  · rintro ⟨b, h, e⟩
    rwa [UInt8.toNat_inj.1 (show b.toNat = c.toNat by omega)] at h

/-- the digits of a number, as bytes -/
def numD (u : Nat) : List Int := (Lib.decDigits u).map fun b => (b.toNat : Int)
theorem numD_step (u : Nat) (h : 9 < u) : numD u = numD (u / 10) ++ [48 + ((u % 10 : Nat) : Int)] := by
  unfold numD
  rw [Lib.decDigits, dif_neg (by omega), List.map_append]
  congr 1
  simp only [List.map_cons, List.map_nil, List.cons.injEq, and_true]
  rw [show (UInt8.ofNat (48 + u % 10)).toNat = 48 + u % 10 from by simp; omega]
  omega
theorem numD_low (u : Nat) (h : u ≤ 9) : numD u = [48 + (u : Int)] := by
  unfold numD
  rw [Lib.decDigits, dif_pos (by omega)]
  simp only [List.map_cons, List.map_nil, List.cons.injEq, and_true]
  rw [show (UInt8.ofNat (48 + u)).toNat = 48 + u from by simp; omega]
  omega
theorem numD_range (u : Nat) : ∀ x ∈ numD u, 0 ≤ x ∧ x < 256 := by
  intro x hx
  obtain ⟨b, _, rfl⟩ := List.mem_map.1 hx
  have := b.toNat_lt
  omega
theorem strNum (u : Nat) : (⟨(Lib.decDigits u).toArray⟩ : ByteArray) = strOfNums (numD u) := by
  apply bytesOf_inj
  rw [bytesOf_strOfNums _ (numD_range u), bytesOf_mk]; rfl
theorem numD_len : ∀ (k u : Nat), u < 10 ^ (k + 1) → (numD u).length ≤ k + 1
  | 0, u, h => by rw [numD_low u (by simpa using Nat.le_of_lt_succ h)]; simp
  | k + 1, u, h => by
    rcases Nat.lt_or_ge 9 u with h9 | h9
    · rw [numD_step u h9, List.length_append]
      have := numD_len k (u / 10) (by rw [Nat.pow_succ] at h; omega)
      simp; omega
    · rw [numD_low u h9]; simp
/-- one digit in front -/
theorem digit_byte (u : Nat) (hu : u ≤ 9223372036854775807) : wrap64 (48 + Int.tmod (u : Int) 10) % 256 = 48 + ((u % 10 : Nat) : Int) := by
  have e : Int.tmod (u : Int) 10 = ((u % 10 : Nat) : Int) := by rw [Int.tmod_eq_emod_of_nonneg (by omega)]; omega
  rw [e, wrap_id (by omega) (by omega)]
  omega
theorem tdiv_ten (u : Nat) (hu : u ≤ 9223372036854775807) : wrap64 (Int.tdiv (u : Int) 10) = ((u / 10 : Nat) : Int) := by
  rw [Int.tdiv_eq_ediv_of_nonneg (by omega), wrap_id (by omega) (by omega)]
  omega

/-- digits, read as a number -/
def decL : Int → List Int → Option Int
  | a, [] => some a
  | a, c :: r => if 48 ≤ c ∧ c ≤ 57 then decL (a * 10 + (c - 48)) r else none
theorem decL_from : ∀ (l : List UInt8) (acc : Nat), decL (acc : Int) (l.map fun b => (b.toNat : Int)) = (Lib.decFrom acc l).map fun m => (m : Int)
  | [], _ => rfl
  | c :: r, acc => by
    simp only [List.map_cons, decL, Lib.decFrom, Lib.digitVal]
    by_cases h : 48 ≤ c.toNat ∧ c.toNat ≤ 57
    · rw [if_pos h, if_pos (by omega), ← decL_from r]
      congr 1; omega
    · rw [if_neg h, if_neg (by omega)]; rfl
theorem decL_snoc : ∀ (l : List Int) (a c : Int), decL a (l ++ [c]) = (decL a l).bind fun m => if 48 ≤ c ∧ c ≤ 57 then some (m * 10 + (c - 48)) else none
  | [], a, c => by simp [decL]
  | d :: r, a, c => by
    simp only [List.cons_append, decL]
    split
    · exact decL_snoc r _ c
    · rfl
theorem decL_le : ∀ (l : List Int) (a m : Int), 0 ≤ a → decL a l = some m → 0 ≤ m ∧ m < (a + 1) * 10 ^ l.length
  | [], a, m, ha, h => by simp only [decL, Option.some.injEq] at h; subst h; simp; omega
  | c :: r, a, m, ha, h => by
    simp only [decL] at h
    split at h
    · have := decL_le r _ m (by omega) h
      refine ⟨this.1, Int.lt_of_lt_of_le this.2 ?_⟩
      rw [List.length_cons, Int.pow_succ, Int.mul_comm (10 ^ r.length) 10, ← Int.mul_assoc]
      exact Int.mul_le_mul_of_nonneg_right (by omega) (Int.le_of_lt (Int.pow_pos (by decide)))
    · cases h
theorem numD_ne (u : Nat) : numD u ≠ [] := by
  rcases Nat.lt_or_ge 9 u with h9 | h9
  · rw [numD_step u h9]; simp
  · rw [numD_low u h9]; simp
theorem decL_numD (u : Nat) : decL 0 (numD u) = some (u : Int) := by
  induction u using Nat.strongRecOn with
  | _ u ih =>
    rcases Nat.lt_or_ge 9 u with h9 | h9
    · rw [numD_step u h9, decL_snoc, ih (u / 10) (by omega), Option.bind_some, if_pos (by omega)]
      congr 1; omega
    · rw [numD_low u h9]
      simp only [decL]
      rw [if_pos (by omega)]
      congr 1; omega
theorem numD_48 (u : Nat) : ∀ r, numD u = 48 :: r → u = 0 := by
  induction u using Nat.strongRecOn with
  | _ u ih =>
    intro r h
    rcases Nat.lt_or_ge 9 u with h9 | h9
    · rw [numD_step u h9] at h
      cases hd : numD (u / 10) with
      | nil => have := numD_ne (u / 10); exact absurd hd this
      | cons c t =>
        rw [hd, List.cons_append] at h
        obtain ⟨rfl, _⟩ := List.cons.inj h
        have := ih (u / 10) (by omega) t hd
        omega
    · rw [numD_low u h9] at h
      have := (List.cons.inj h).1
      omega
theorem numD_dig (u : Nat) : ∀ c ∈ numD u, 48 ≤ c ∧ c ≤ 57 := by
  induction u using Nat.strongRecOn with
  | _ u ih =>
    intro c h
    rcases Nat.lt_or_ge 9 u with h9 | h9
    · rw [numD_step u h9, List.mem_append] at h
      rcases h with h | h
      · exact ih (u / 10) (by omega) c h
      · simp at h; omega
    · rw [numD_low u h9] at h
      simp at h; omega
/-- what digits without a 0 ahead spell has these digits -/
theorem numD_dec : ∀ (n : Nat) (l : List Int) (m : Int), l.length = n + 1 → decL 0 l = some m → (n = 0 ∨ ∀ r, l ≠ 48 :: r) → numD m.toNat = l
  | 0, l, m, hl, h, _ => by
    obtain ⟨c, rfl⟩ := List.length_eq_one_iff.1 hl
    simp only [decL] at h
    split at h
    · obtain rfl := Option.some.inj h
      rw [numD_low _ (by omega)]
      congr 1; omega
    · cases h
  | n + 1, l, m, hl, h, h0 => by
    replace h0 : ∀ r, l ≠ 48 :: r := by rcases h0 with h0 | h0; · omega
                                        · exact h0
    obtain ⟨l', c, rfl⟩ : ∃ l' c, l = l' ++ [c] := ⟨l.dropLast, l.getLast (by intro e; subst e; simp at hl), (List.dropLast_concat_getLast _).symm⟩
    have hl' : l'.length = n + 1 := by simp at hl; omega
    rw [decL_snoc] at h
    obtain ⟨m', hm', h⟩ := Option.bind_eq_some_iff.1 h
    split at h
    · rename_i hc
      obtain rfl := Option.some.inj h
      have hb := decL_le l' 0 m' (by omega) hm'
      have h0' : ∀ r, l' ≠ 48 :: r := fun r e => h0 (r ++ [c]) (by rw [e]; rfl)
      have ih := numD_dec n l' m' hl' hm' (.inr h0')
      have h1 : 0 < m'.toNat := by
        rcases Nat.eq_zero_or_pos m'.toNat with e | e
        · rw [e, numD_low 0 (by omega)] at ih
          exact absurd ih.symm (h0' [])
        · exact e
      rw [numD_step _ (by omega), show (m' * 10 + (c - 48)).toNat / 10 = m'.toNat from by omega, ih]
      congr 2; omega
    · cases h

theorem l1In_eq (c a b : Int) : spec_l1In.f c a b = some (decide (a ≤ c) && decide (c ≤ b)) := by
  unfold spec_l1In.f; split <;> simp [*] <;> omega

theorem l1Digit_eq (c : Int) (h : wrap64 c = c) : spec_l1Digit.f c = some (digitC c) := by
  unfold spec_l1Digit.f; rw [h, l1In_eq]; rfl

theorem impl_NumText_eq (n : Int) (hn : n ≤ 9223372036854775807) : impl_NumText.f n = some (strOfNums (numD n.toNat)) := by
  have e : mx n 0 = ((n.toNat : Nat) : Int) := by unfold mx; split <;> omega
  unfold impl_NumText.f
  rw [e]
  unfold strconv_Itoa.f
  rw [if_pos (by omega), Option.bind_some]
  unfold Lib.itoa
  rw [if_neg (by omega), Int.toNat_natCast, strNum]

/-- a number of at most seven digits, no 0 ahead, not above a bound -/
def pnum (s : ByteArray) (most : Int) : Int × Bool :=
  match decL 0 (bytesOf s) with
  | none => (0, false)
  | some n => if 1 ≤ s.size ∧ s.size ≤ 7 ∧ ¬ (1 < s.size ∧ (bytesOf s).head? = some 48) ∧ n ≤ most then (n, true) else (0, false)
theorem pnum_yes (s : ByteArray) (most : Int) (u : Nat) (hu : bytesOf s = numD u) (h7 : s.size ≤ 7) (hm : (u : Int) ≤ most) : pnum s most = ((u : Int), true) := by
  unfold pnum
  rw [hu, decL_numD]
  have hne := numD_ne u
  have hl : s.size = (numD u).length := by rw [← hu, bytesOf_length]
  have h1 : 1 ≤ s.size := by
    rcases Nat.eq_zero_or_pos s.size with e | e
    · rw [e] at hl; exact absurd (List.length_eq_zero_iff.1 hl.symm) hne
    · exact e
  refine if_pos ⟨h1, h7, ?_, hm⟩
  rintro ⟨h2, h3⟩
  cases hd : numD u with
  | nil => exact hne hd
  | cons c r =>
    rw [hd] at h3 hl
    simp only [List.head?_cons, Option.some.injEq] at h3
    subst h3
    have := numD_48 u r hd
    subst this
    rw [numD_low 0 (by omega)] at hd
    obtain ⟨_, rfl⟩ := List.cons.inj hd
    simp at hl; omega
theorem pnum_no (s : ByteArray) (most : Int) (h : ∀ u : Nat, bytesOf s = numD u → s.size ≤ 7 → ¬ (u : Int) ≤ most) : pnum s most = (0, false) := by
  unfold pnum
  cases hd : decL 0 (bytesOf s) with
  | none => rfl
  | some n =>
    refine if_neg ?_
    rintro ⟨h1, h7, h0, hm⟩
    have hb := decL_le _ 0 n (by omega) hd
    have hl := bytesOf_length s
    have := numD_dec (s.size - 1) (bytesOf s) n (by omega) hd (by
      rcases Nat.eq_zero_or_pos (s.size - 1) with e | e
      · exact .inl e
      · refine .inr fun r hr => h0 ⟨by omega, by rw [hr]; rfl⟩)
    exact h n.toNat this.symm h7 (by omega)
theorem impl_ParseNum_eq (s : ByteArray) (most : Int) (hs : s.size ≤ 281474976710656) : impl_ParseNum.f s most = some (pnum s most) := by
  unfold impl_ParseNum.f
  rw [if_pos hs]
  have hbs : bytesOf s = s.data.toList.map fun b => (b.toNat : Int) := rfl
  by_cases hy : ∃ u : Nat, bytesOf s = numD u ∧ s.size ≤ 7 ∧ (u : Int) ≤ most
  · obtain ⟨u, hu, h7, hm⟩ := hy
    rw [pnum_yes s most u hu h7 hm]
    have hlen : s.data.toList.length ≤ 18 := by have := data_length s; omega
    have hdec : Lib.decFrom 0 s.data.toList = some u := by
      have h1 := decL_from s.data.toList 0
      rw [← hbs, hu, show ((0 : Nat) : Int) = 0 from rfl, decL_numD] at h1
      cases hd : Lib.decFrom 0 s.data.toList with
      | none => rw [hd] at h1; cases h1
      | some m => rw [hd] at h1; have h2 : (u : Int) = (m : Int) := Option.some.inj h1; congr 1; omega
    have hat : Lib.atoiAll s.data.toList = .ok (u : Int) := by
      cases hl : s.data.toList with
      | nil => rw [hl] at hbs; rw [hu] at hbs; exact absurd hbs (numD_ne u)
      | cons c r =>
        have hc : 48 ≤ (c.toNat : Int) ∧ (c.toNat : Int) ≤ 57 := numD_dig u _ (by rw [← hu, hbs, hl]; simp)
        rw [Lib.atoiAll_plain c r (by omega) (by omega), ← hl, Lib.signless_short hlen]
        unfold Lib.decNat
        rw [if_neg (by rw [hl]; simp), hdec]
        rfl
    have hn := numD_len 6 u
    have hlt : (u : Int) < 10000000 := by
      have := (decL_le _ 0 _ (by omega) (decL_numD u)).2
      rw [← hu, bytesOf_length] at this
      have h3 : (10 : Int) ^ s.size ≤ 10 ^ 7 := by
        have := Nat.pow_le_pow_right (n := 10) (by decide) h7
        exact_mod_cast this
      have e7 : (10 : Int) ^ 7 = 10000000 := by decide
      omega
    rw [hat]
    (try simp only [])
    rw [if_neg (by omega), if_neg (by omega), if_neg (by omega), impl_NumText_eq _ (by omega), Option.bind_some, Int.toNat_natCast]
    rw [if_pos]
    rw [← hu, strOfNums_bytesOf]
  · rw [pnum_no s most (fun u h1 h2 h3 => hy ⟨u, h1, h2, h3⟩)]
    cases hat : Lib.atoiAll s.data.toList with
    | range => rfl
    | ok v =>
      have hb := Lib.atoiAll_bounds hat
      (try simp only [])
      by_cases h1 : v < 0
      · rw [if_pos h1]
      by_cases h2 : most < v
      · rw [if_neg h1, if_pos h2]
      by_cases h3 : 7 < s.size
      · rw [if_neg h1, if_neg h2, if_pos h3]
      rw [if_neg h1, if_neg h2, if_neg h3, impl_NumText_eq _ hb.2, Option.bind_some]
      rw [if_neg]
      intro e
      refine hy ⟨v.toNat, ?_, by omega, by omega⟩
      have : strOfNums (numD v.toNat) = s := (toList_iff _ _).1 e
      rw [← this, bytesOf_strOfNums _ (numD_range _)]
    | _ => rfl
def pnFin (s : ByteArray) (most n : Int) : Int × Bool := if 1 ≤ s.size ∧ s.size ≤ 7 ∧ ¬ (1 < s.size ∧ (bytesOf s).head? = some 48) ∧ n ≤ most then (n, true) else (0, false)
def pnRest (s : ByteArray) (most n : Int) (l : List Int) : Int × Bool := match decL n l with
  | none => (0, false)
  | some m => pnFin s most m
theorem pnFin_long (s : ByteArray) (most n : Int) (h : 7 < s.size) : pnFin s most n = (0, false) := by
  unfold pnFin; rw [if_neg (by omega)]
theorem pnRest_long (s : ByteArray) (most n : Int) (l : List Int) (h : 7 < s.size) : pnRest s most n l = (0, false) := by
  unfold pnRest
  cases decL n l with
  | none => rfl
  | some m => exact pnFin_long s most m h
theorem head_bt (s : ByteArray) (h : 0 < s.size) : (bytesOf s).head? = some (bt s 0) := by
  cases hb : bytesOf s with
  | nil => have := bytesOf_length s; rw [hb] at this; simp at this; omega
  | cons c r =>
    have := (bt_drop (s := s) (i := 0) (by rw [List.drop_zero]; exact hb)).1
    rw [show ((0 : Nat) : Int) = 0 from rfl] at this
    rw [this]; rfl
theorem spec_ParseNum_j1 (s : ByteArray) (most n i : Int) : Ev (fun k => spec_ParseNum.j1 k s most n i false) (pnFin s most n) := by
  apply ev_succ
  simp only [spec_ParseNum.j1, Bool.false_eq_true, if_false, l1In_eq, Option.bind_some]
  refine ev_iteB (fun q => ?_) (fun q => ?_)
  · simp only [Bool.and_eq_true, decide_eq_true_eq] at q
    refine ev_ite (fun q1 => ?_) (fun q1 => ?_)
    · rw [if_pos (show (0 : Int) < (s.size : Int) by omega)]
      have hb := head_bt s (by omega)
      by_cases q2 : bt s 0 = 48
      · rw [if_pos q2]
        have : pnFin s most n = (0, false) := by
          unfold pnFin
          rw [hb, q2, if_neg (fun h => h.2.2.1 ⟨by omega, rfl⟩)]
        rw [this]; exact Ev.now _
      · rw [if_neg q2]
        have hq : ¬ (1 < s.size ∧ (bytesOf s).head? = some 48) := fun h => q2 (by have := h.2; rw [hb] at this; exact Option.some.inj this)
        by_cases q3 : n > most
        · rw [if_pos q3]
          have : pnFin s most n = (0, false) := by unfold pnFin; rw [if_neg (by omega)]
          rw [this]; exact Ev.now _
        · rw [if_neg q3]
          have : pnFin s most n = (n, true) := by unfold pnFin; rw [if_pos ⟨by omega, by omega, hq, by omega⟩]
          rw [this]; exact Ev.now _
    · by_cases q3 : n > most
      · rw [if_pos q3]
        have : pnFin s most n = (0, false) := by unfold pnFin; rw [if_neg (by omega)]
        rw [this]; exact Ev.now _
      · rw [if_neg q3]
        have : pnFin s most n = (n, true) := by unfold pnFin; rw [if_pos ⟨by omega, by omega, fun h => by omega, by omega⟩]
        rw [this]; exact Ev.now _
  · have : pnFin s most n = (0, false) := by
      unfold pnFin
      rw [if_neg]
      rintro ⟨h1, h2, _⟩
      rw [decide_eq_true (by omega), decide_eq_true (by omega)] at q
      cases q
    rw [this]; exact Ev.now _
theorem spec_ParseNum_ev (s : ByteArray) (most : Int) (hs : s.size ≤ 140737488351232) : Ev (fun k => spec_ParseNum.f k s most) (pnum s most) := by
  have := str_loop_st s (fun i n k => spec_ParseNum.l0 k s most n (i : Int)) (fun i n r => pnRest s most n r) (fun i n r => i ≤ 8 ∧ 0 ≤ n ∧ n < 10 ^ i ∧ i + r.length = s.size) ?_ ?_ hs 0 0 ⟨by omega, by omega, by simp, by simp [bytesOf_length]⟩
  · exact this
  · intro i n ⟨h8, h0, hn, hl⟩ hi
    apply ev_succ
    simp only [spec_ParseNum.l0, if_neg (show ¬ (i : Int) < s.size by omega)]
    exact spec_ParseNum_j1 s most n i
  · intro i n c r ⟨h8, h0, hn, hl⟩ h hb hi hw hw1 ih
    have hc := bytesOf_range s c (List.mem_of_mem_drop (by rw [h]; simp : c ∈ (bytesOf s).drop i))
    apply ev_succ
    simp only [spec_ParseNum.l0, if_pos (show (i : Int) < s.size by omega)]
    rcases Nat.lt_or_ge i 8 with q8 | q8
    · rw [decide_eq_true (by omega)]
      apply ev_succ
      simp only [spec_ParseNum.j1, if_true, if_pos (show (0 : Int) ≤ (i : Int) by omega), if_pos (show (i : Int) < s.size by omega), hb, l1Digit_eq c hw, Option.bind_some, hw1]
      have hp : (10 : Int) ^ i ≤ 10 ^ 7 := by
        have := Nat.pow_le_pow_right (n := 10) (by decide) (show i ≤ 7 by omega)
        exact_mod_cast this
      have e7 : (10 : Int) ^ 7 = 10000000 := by decide
      by_cases qd : 48 ≤ c ∧ c ≤ 57
      · have hd : digitC c = true := by simp only [digitC, Bool.and_eq_true, decide_eq_true_eq]; exact qd
        simp only [hd, if_true]
        rw [wrap_id (x := n * 10) (by omega) (by omega), show (c - 48) % 256 = c - 48 by omega, wrap_id (x := n * 10 + (c - 48)) (by omega) (by omega)]
        have := ih (n * 10 + (c - 48)) ⟨by omega, by omega, by rw [Int.pow_succ]; omega, by simp at hl ⊢; omega⟩
        have e : pnRest s most n (c :: r) = pnRest s most (n * 10 + (c - 48)) r := by
          unfold pnRest; simp only [decL, if_pos qd]
        rw [e]; exact this
      · have hd : digitC c = false := by rw [← Bool.not_eq_true]; simp only [digitC, Bool.and_eq_true, decide_eq_true_eq]; exact qd
        simp only [hd, Bool.false_eq_true, if_false]
        have e : pnRest s most n (c :: r) = (0, false) := by
          unfold pnRest; simp only [decL, if_neg qd]
        rw [e]; exact Ev.now _
    · rw [decide_eq_false (by omega), pnRest_long s most n (c :: r) (by simp at hl; omega)]
      have := spec_ParseNum_j1 s most n i
      rw [pnFin_long s most n (by simp at hl; omega)] at this
      exact this

theorem pnum_bound (s : ByteArray) (most : Int) (h : (pnum s most).2 = true) : 0 ≤ (pnum s most).1 ∧ (pnum s most).1 ≤ most ∧ ∀ c ∈ bytesOf s, 48 ≤ c ∧ c ≤ 57 := by
  unfold pnum at *
  cases hd : decL 0 (bytesOf s) with
  | none => rw [hd] at h; cases h
  | some n =>
    rw [hd] at h
    simp only [] at h ⊢
    split at h
    · rename_i hq
      rw [if_pos hq]
      refine ⟨(decL_le _ 0 n (by omega) hd).1, hq.2.2.2, ?_⟩
      have key : ∀ (l : List Int) (a m : Int), decL a l = some m → ∀ c ∈ l, 48 ≤ c ∧ c ≤ 57 := by
        intro l
        induction l with
        | nil => intro a m _ c hc; cases hc
        | cons d r ih =>
          intro a m hm c hc
          simp only [decL] at hm
          split at hm
          · rename_i hd
            rcases List.mem_cons.1 hc with rfl | hc
            · exact hd
            · exact ih _ m hm c hc
          · cases hm
      exact key _ 0 n hd
    · cases h

/-- the byte that a name stands for; -1: none -/
def entB (l : List Int) : Int :=
  if l = [97, 109, 112] then 38 else if l = [108, 116] then 60 else if l = [103, 116] then 62 else if l = [113, 117, 111, 116] then 34 else if l = [97, 112, 111, 115] then 39 else
  match l with
  | [] => -1
  | c :: r => if c = 35 ∧ (pnum (strOfNums r) 126).2 = true ∧ 32 ≤ (pnum (strOfNums r) 126).1 then (pnum (strOfNums r) 126).1 else -1
theorem entB_range (l : List Int) : -1 ≤ entB l ∧ entB l ≤ 126 := by
  unfold entB
  repeat' split
  all_goals first | omega | skip
  rename_i h
  have := pnum_bound _ _ h.2.1
  omega
theorem entB_60 (l : List Int) (hr : ∀ x ∈ l, 0 ≤ x ∧ x < 256) (h : 0 ≤ entB l) : (60 : Int) ∉ l := by
  unfold entB at h
  split at h
  · rename_i e; subst e; decide
  split at h
  · rename_i e; subst e; decide
  split at h
  · rename_i e; subst e; decide
  split at h
  · rename_i e; subst e; decide
  split at h
  · rename_i e; subst e; decide
  cases l with
  | nil => simp
  | cons c r =>
    simp only [] at h
    split at h
    · rename_i hq
      have hb := (pnum_bound _ _ hq.2.1).2.2
      rw [bytesOf_strOfNums _ (fun x hx => hr x (by simp [hx]))] at hb
      intro hm
      rcases List.mem_cons.1 hm with e | hm
      · omega
      · have := hb _ hm; omega
    · omega
theorem lits5 (s : ByteArray) : (s.toList = ([97, 109, 112] : List UInt8) ↔ bytesOf s = [97, 109, 112]) ∧ (s.toList = ([108, 116] : List UInt8) ↔ bytesOf s = [108, 116]) ∧ (s.toList = ([103, 116] : List UInt8) ↔ bytesOf s = [103, 116]) ∧ (s.toList = ([113, 117, 111, 116] : List UInt8) ↔ bytesOf s = [113, 117, 111, 116]) ∧ (s.toList = ([97, 112, 111, 115] : List UInt8) ↔ bytesOf s = [97, 112, 111, 115]) :=
  ⟨lit_iff s _, lit_iff s _, lit_iff s _, lit_iff s _, lit_iff s _⟩
theorem spec_l7Entity_ev (s : ByteArray) (hs : s.size ≤ 1048576) : Ev (fun k => spec_l7Entity.f k s) (entB (bytesOf s)) := by
  obtain ⟨e1, e2, e3, e4, e5⟩ := lits5 s
  unfold spec_l7Entity.f entB
  refine ev_ite (fun q => ?_) (fun q => ?_)
  · rw [if_pos (e1.1 q)]; exact Ev.now _
  rw [if_neg (fun h => q (e1.2 h))]
  refine ev_ite (fun q => ?_) (fun q => ?_)
  · rw [if_pos (e2.1 q)]; exact Ev.now _
  rw [if_neg (fun h => q (e2.2 h))]
  refine ev_ite (fun q => ?_) (fun q => ?_)
  · rw [if_pos (e3.1 q)]; exact Ev.now _
  rw [if_neg (fun h => q (e3.2 h))]
  refine ev_ite (fun q => ?_) (fun q => ?_)
  · rw [if_pos (e4.1 q)]; exact Ev.now _
  rw [if_neg (fun h => q (e4.2 h))]
  refine ev_ite (fun q => ?_) (fun q => ?_)
  · rw [if_pos (e5.1 q)]; exact Ev.now _
  rw [if_neg (fun h => q (e5.2 h))]
  have hl := bytesOf_length s
  have hf : Ev (fun k => spec_l7Entity.j0 k s false) (-1 : Int) := by
    apply ev_succ; simp only [spec_l7Entity.j0, Bool.false_eq_true, if_false]; exact Ev.now _
  have he := bytesOf_extract s 1 s.size
  rw [List.take_of_length_le (by omega)] at he
  cases hb : bytesOf s with
  | nil =>
    rw [hb] at hl
    simp only [List.length_nil] at hl
    simp only [if_neg (show ¬ (s.size : Int) > 1 by omega)]
    exact hf
  | cons c r =>
    rw [hb] at hl he
    simp only [List.drop_succ_cons, List.drop_zero] at he
    have hbt : bt s 0 = c := (bt_drop (s := s) (i := 0) (by rw [List.drop_zero]; exact hb)).1
    have hr : strOfNums r = s.extract 1 s.size := by rw [← he, strOfNums_bytesOf]
    show Ev _ (if c = 35 ∧ (pnum (strOfNums r) 126).2 = true ∧ 32 ≤ (pnum (strOfNums r) 126).1 then (pnum (strOfNums r) 126).1 else -1)
    rw [hr]
    simp only [List.length_cons] at hl
    refine ev_ite (fun q => ?_) (fun q => ?_)
    · simp only [if_pos (show (0 : Int) < (s.size : Int) by omega), hbt]
      by_cases q1 : c = 35
      · rw [beq_iff_eq.2 q1]
        apply ev_succ
        simp only [spec_l7Entity.j0, if_true, if_pos (show (1 : Int) ≤ (s.size : Int) by omega)]
        have hz : (s.extract 1 s.size).size ≤ s.size := by rw [← bytesOf_length, he]; omega
        refine Ev.bind (spec_ParseNum_ev (s.extract 1 s.size) 126 (by omega)) ?_
        refine ev_iteB (fun q2 => ?_) (fun q2 => ?_)
        · refine ev_ite (fun q3 => ?_) (fun q3 => ?_)
          · rw [if_pos ⟨q1, q2, q3⟩]; exact Ev.now _
          · rw [if_neg (fun h => q3 h.2.2)]; exact Ev.now _
        · rw [if_neg (fun h => by rw [q2] at h; exact absurd h.2.1 (by decide))]; exact Ev.now _
      · rw [if_neg (fun h => q1 h.1), show (c == (35 : Int)) = false from by simpa using q1]
        exact hf
    · have hr0 : r = [] := List.length_eq_zero_iff.1 (by omega)
      have : pnum (s.extract 1 s.size) 126 = (0, false) := by
        unfold pnum; rw [he, hr0]
        simp only [decL]
        rw [if_neg]
        have : (s.extract 1 s.size).size = 0 := by rw [← bytesOf_length, he, hr0]; rfl
        omega
      rw [this, if_neg (fun h => absurd h.2.1 (by decide))]
      exact hf
theorem impl_named_eq (s : ByteArray) (hs : s.size ≤ 1048576) : ∃ t, impl_named.f s = some (t, decide (0 ≤ entB (bytesOf s))) ∧ (0 ≤ entB (bytesOf s) → bytesOf t = [entB (bytesOf s)]) := by
  obtain ⟨e1, e2, e3, e4, e5⟩ := lits5 s
  unfold impl_named.f entB
  by_cases q : s.toList = ([97, 109, 112] : List UInt8)
  · rw [if_pos q, if_pos (e1.1 q)]; exact ⟨_, rfl, fun _ => rfl⟩
  rw [if_neg q, if_neg (fun h => q (e1.2 h))]; clear q
  by_cases q : s.toList = ([108, 116] : List UInt8)
  · rw [if_pos q, if_pos (e2.1 q)]; exact ⟨_, rfl, fun _ => rfl⟩
  rw [if_neg q, if_neg (fun h => q (e2.2 h))]; clear q
  by_cases q : s.toList = ([103, 116] : List UInt8)
  · rw [if_pos q, if_pos (e3.1 q)]; exact ⟨_, rfl, fun _ => rfl⟩
  rw [if_neg q, if_neg (fun h => q (e3.2 h))]; clear q
  by_cases q : s.toList = ([113, 117, 111, 116] : List UInt8)
  · rw [if_pos q, if_pos (e4.1 q)]; exact ⟨_, rfl, fun _ => rfl⟩
  rw [if_neg q, if_neg (fun h => q (e4.2 h))]; clear q
  by_cases q : s.toList = ([97, 112, 111, 115] : List UInt8)
  · rw [if_pos q, if_pos (e5.1 q)]; exact ⟨_, rfl, fun _ => rfl⟩
  rw [if_neg q, if_neg (fun h => q (e5.2 h))]; clear q
  have hbs : bytesOf s = s.data.toList.map fun b => (b.toNat : Int) := rfl
  have hc : strings_CutPrefix.f s (⟨#[35]⟩ : ByteArray) = some (⟨(Lib.trimPrefix s.data.toList [35]).toArray⟩, Lib.hasPrefix s.data.toList [35]) := rfl
  have hlen := data_length s
  cases hd : s.data.toList with
  | nil =>
    have hb : bytesOf s = [] := by rw [hbs, hd]; rfl
    rw [hc, hd, hb]
    have hp := impl_ParseNum_eq ⟨(Lib.trimPrefix [] [35]).toArray⟩ 126 (by decide)
    simp only [Option.bind_some, hp]
    exact ⟨_, rfl, fun h => absurd h (by decide)⟩
  | cons c r =>
    have hb : bytesOf s = (c.toNat : Int) :: (r.map fun b => (b.toNat : Int)) := by rw [hbs, hd]; rfl
    rw [hc, hd, hb]
    have hz : ∀ l : List UInt8, (⟨l.toArray⟩ : ByteArray).size = l.length := fun l => by rw [← bytesOf_length, bytesOf_mk, List.length_map]
    by_cases q : c = 35
    · subst q
      have h1 : Lib.trimPrefix (35 :: r) [35] = r := by simp [Lib.trimPrefix, Lib.hasPrefix]
      have h2 : Lib.hasPrefix (35 :: r) [35] = true := by simp [Lib.hasPrefix]
      have hr : strOfNums (r.map fun b => (b.toNat : Int)) = ⟨r.toArray⟩ := by rw [← bytesOf_mk, strOfNums_bytesOf]
      rw [h1, h2]
      have hm : (match (((35 : UInt8).toNat : Nat) : Int) :: (r.map fun b => (b.toNat : Int)) with
        | [] => -1
        | c :: r => if c = 35 ∧ (pnum (strOfNums r) 126).2 = true ∧ 32 ≤ (pnum (strOfNums r) 126).1 then (pnum (strOfNums r) 126).1 else -1 : Int) = if (((35 : UInt8).toNat : Nat) : Int) = 35 ∧ (pnum ⟨r.toArray⟩ 126).2 = true ∧ 32 ≤ (pnum ⟨r.toArray⟩ 126).1 then (pnum ⟨r.toArray⟩ 126).1 else -1 := by
        show (if _ then _ else _ : Int) = _
        rw [hr]
      rw [hm]
      have hp := impl_ParseNum_eq ⟨r.toArray⟩ 126 (by rw [hz]; rw [hd] at hlen; simp at hlen; omega)
      simp only [Option.bind_some, hp, if_true]
      have hbd := pnum_bound (⟨r.toArray⟩ : ByteArray) 126
      generalize pnum (⟨r.toArray⟩ : ByteArray) 126 = x at hbd
      obtain ⟨n, b⟩ := x
      cases b with
      | false =>
        simp only [Bool.false_eq_true, if_false, false_and, and_false]
        exact ⟨_, rfl, fun h => absurd h (by decide)⟩
      | true =>
        have hbd := hbd rfl
        simp only [] at hbd
        simp only [if_true, true_and]
        have c35 : (((35 : UInt8).toNat : Nat) : Int) = 35 := rfl
        by_cases q1 : n < 32
        · rw [if_pos q1, if_neg (by omega)]
          exact ⟨_, rfl, fun h => absurd h (by decide)⟩
        · rw [if_neg q1, if_pos ⟨c35, by omega⟩, decide_eq_true (show (0 : Int) ≤ n by omega), show n % 256 = n by omega]
          exact ⟨_, rfl, fun _ => bytesOf_strOfNums _ (by intro x hx; simp at hx; omega)⟩
    · have h2 : Lib.hasPrefix (c :: r) [35] = false := by
        unfold Lib.hasPrefix
        simp only [List.isPrefixOf, Bool.and_true]
        rw [beq_eq_false_iff_ne]; exact fun e => q e.symm
      have h1 : Lib.trimPrefix (c :: r) [35] = c :: r := by rw [Lib.trimPrefix, h2]; rfl
      rw [h1, h2]
      have c35 : ¬ ((c.toNat : Nat) : Int) = 35 := fun e => q (UInt8.toNat_inj.1 (by show c.toNat = 35; omega))
      have hm : (match ((c.toNat : Nat) : Int) :: (r.map fun b => (b.toNat : Int)) with
        | [] => -1
        | c :: r => if c = 35 ∧ (pnum (strOfNums r) 126).2 = true ∧ 32 ≤ (pnum (strOfNums r) 126).1 then (pnum (strOfNums r) 126).1 else -1 : Int) = -1 := if_neg (fun h => c35 h.1)
      rw [hm]
      have hp := impl_ParseNum_eq ⟨(c :: r).toArray⟩ 126 (by rw [hz]; rw [hd] at hlen; omega)
      simp only [Option.bind_some, hp, Bool.false_eq_true, if_false]
      exact ⟨_, rfl, fun h => absurd h (by decide)⟩
theorem drC_tail_lt (c : Int) (r : List Int) : (drC c r).tail.length ≤ r.length := by
  have := drC_len c r
  rw [List.length_tail]; omega
/-- a text with its names read; none: it is not right -/
def un : List Int → List Int → Option (List Int)
  | [], out => some out
  | c :: r, out => if c = 60 then none else if c = 38 then (if drC 59 r = [] ∨ entB (tkC 59 r) < 0 then none else un (drC 59 r).tail (out ++ [entB (tkC 59 r)])) else un r (out ++ [c])
termination_by l => l.length
decreasing_by
  · have := drC_tail_lt 59 r; simp only [List.length_cons]; omega
  · simp only [List.length_cons]; omega
theorem un_nil (out : List Int) : un [] out = some out := by rw [un]
theorem un_cons (c : Int) (r out : List Int) : un (c :: r) out = if c = 60 then none else if c = 38 then (if drC 59 r = [] ∨ entB (tkC 59 r) < 0 then none else un (drC 59 r).tail (out ++ [entB (tkC 59 r)])) else un r (out ++ [c]) := by rw [un]
theorem un_front : ∀ (l r out : List Int), (60 : Int) ∉ l → (38 : Int) ∉ l → un (l ++ r) out = un r (out ++ l)
  | [], r, out, _, _ => by simp
  | c :: l, r, out, h1, h2 => by
    simp only [List.mem_cons, not_or] at h1 h2
    rw [List.cons_append, un_cons, if_neg (fun e => h1.1 e.symm), if_neg (fun e => h2.1 e.symm), un_front l r _ h1.2 h2.2, List.append_assoc]
    rfl
theorem un_60 : ∀ (n : Nat) (l out : List Int), l.length ≤ n → (∀ x ∈ l, 0 ≤ x ∧ x < 256) → (60 : Int) ∈ l → un l out = none
  | 0, l, out, hn, _, hm => by
    rw [List.length_eq_zero_iff.1 (by omega : l.length = 0)] at hm; cases hm
  | n + 1, [], out, hn, _, hm => by cases hm
  | n + 1, c :: r, out, hn, hr, hm => by
    rw [un_cons]
    have hr' : ∀ x ∈ r, 0 ≤ x ∧ x < 256 := fun x hx => hr x (by simp [hx])
    by_cases q : c = 60
    · rw [if_pos q]
    have hm' : (60 : Int) ∈ r := by
      rcases List.mem_cons.1 hm with e | h
      · exact absurd e.symm q
      · exact h
    rw [if_neg q]
    simp only [List.length_cons] at hn
    by_cases q1 : c = 38
    · rw [if_pos q1]
      split
      · rfl
      · rename_i hq
        have hd : drC 59 r ≠ [] := fun e => hq (.inl e)
        have he : 0 ≤ entB (tkC 59 r) := by
          rcases Int.lt_or_le (entB (tkC 59 r)) 0 with h | h
          · exact absurd (.inr h) hq
          · exact h
        have ht := tk_dr 59 r
        have hrt : ∀ x ∈ tkC 59 r, 0 ≤ x ∧ x < 256 := fun x hx => hr' x (by rw [← ht]; exact List.mem_append_left _ hx)
        have h60 := entB_60 _ hrt he
        have hl := drC_tail_lt 59 r
        refine un_60 n _ _ (by omega) (fun x hx => hr' x (by rw [← ht]; exact List.mem_append_right _ (List.mem_of_mem_tail hx))) ?_
        rw [← ht] at hm'
        rcases List.mem_append.1 hm' with h | h
        · exact absurd h h60
        · cases hdr : drC 59 r with
          | nil => exact absurd hdr hd
          | cons a u =>
            have ha := drC_head hdr
            rw [hdr] at h
            rcases List.mem_cons.1 h with e | h
            · omega
            · exact h
    · rw [if_neg q1]
      exact un_60 n r _ (by omega) hr' hm'
def resU : Option (List Int) → ByteArray × Bool
  | none => (⟨#[]⟩, false)
  | some o => (strOfNums o, true)
theorem spec_Unescape_l1 (s : ByteArray) (hs : s.size ≤ 1048576) (out : List Int) (i : Nat) : ∀ (n p : Nat) (v : ByteArray × Bool), s.size - p = n → p ≤ s.size → Ev (fun k => spec_Unescape.j2 k s out (i : Int) ((p + (tkC 59 ((bytesOf s).drop p)).length : Nat) : Int)) v → Ev (fun k => spec_Unescape.l1 k s out (i : Int) (p : Int)) v
  | 0, p, v, hn, hp, h => by
    apply ev_succ
    simp only [spec_Unescape.l1, if_neg (show ¬ (p : Int) < s.size by omega)]
    rw [List.drop_eq_nil_of_le (by rw [bytesOf_length]; omega)] at h
    exact h
  | n + 1, p, v, hn, hp, h => by
    have hl := bytesOf_length s
    cases hd : (bytesOf s).drop p with
    | nil => have := size_drop hd; omega
    | cons c r =>
      obtain ⟨hb, hi, hdr⟩ := bt_drop hd
      have hw : wrap64 ((p : Int) + 1) = ((p + 1 : Nat) : Int) := by rw [wrap_id (by omega) (by omega)]; omega
      apply ev_succ
      simp only [spec_Unescape.l1, if_pos (show (p : Int) < s.size by omega), if_pos (show (0 : Int) ≤ (p : Int) by omega), hb, hw]
      rw [hd] at h
      by_cases q : c = 59
      · simp only [if_pos q]
        have e : tkC 59 (c :: r) = [] := by simp [tkC, q]
        rw [e] at h
        exact h
      · simp only [if_neg q]
        have e : tkC 59 (c :: r) = c :: tkC 59 r := by simp [tkC, q]
        refine spec_Unescape_l1 s hs out i n (p + 1) v (by omega) (by omega) ?_
        rw [e, List.length_cons] at h
        rw [hdr, show p + 1 + (tkC 59 r).length = p + ((tkC 59 r).length + 1) by omega]
        exact h
theorem un_ar (S i m L R n O : Nat) (h1 : R = S - (i + 1)) (h2 : m + (L + 1) = R) (hs : S ≤ 1048576) (hi : i < S) (hn : S - i ≤ n + 1) (ho : O ≤ i) : wrap64 (((i + 1 + m : Nat) : Int) + 1) = ((i + 1 + m + 1 : Nat) : Int) ∧ S - (i + 1 + m + 1) ≤ n ∧ i + 1 + m + 1 ≤ S ∧ O < 140737488355328 ∧ O + 1 ≤ i + 1 + m + 1 ∧ ¬ ((i + 1 + m : Nat) : Int) = (S : Int) ∧ ((i + 1 + m : Nat) : Int) ≤ (S : Int) ∧ m ≤ 1048576 := by
  rw [wrap_id (by omega) (by omega)]; omega
theorem spec_Unescape_l0 (s : ByteArray) (hs : s.size ≤ 1048576) : ∀ (n i : Nat) (out : List Int), s.size - i ≤ n → i ≤ s.size → out.length ≤ i → Ev (fun k => spec_Unescape.l0 k s out (i : Int)) (resU (un ((bytesOf s).drop i) out))
  | n, i, out, hn, hi, ho => by
    have hl := bytesOf_length s
    cases hd : (bytesOf s).drop i with
    | nil =>
      have := size_drop hd
      apply ev_succ
      simp only [spec_Unescape.l0, if_neg (show ¬ (i : Int) < s.size by omega)]
      rw [un_nil]; exact Ev.now _
    | cons c r =>
      obtain ⟨hb, hi', hdr⟩ := bt_drop hd
      match n, hn with
      | 0, hn => omega
      | n + 1, hn =>
      have hw : wrap64 ((i : Int) + 1) = ((i + 1 : Nat) : Int) := by rw [wrap_id (by omega) (by omega)]; omega
      rw [un_cons]
      apply ev_succ
      simp only [spec_Unescape.l0, if_pos (show (i : Int) < s.size by omega), if_pos (show (0 : Int) ≤ (i : Int) by omega), hb, hw]
      by_cases q : c = 60
      · simp only [if_pos q]; exact Ev.now _
      simp only [if_neg q]
      by_cases q1 : c = 38
      · simp only [if_pos q1]
        refine spec_Unescape_l1 s hs out i (s.size - (i + 1)) (i + 1) _ rfl (by omega) ?_
        rw [hdr]
        have htd := tk_dr 59 r
        have hlen := drC_len 59 r
        have hrl : r.length = s.size - (i + 1) := by rw [← hdr, List.length_drop, hl]
        have hex : bytesOf (s.extract (i + 1) (i + 1 + (tkC 59 r).length)) = tkC 59 r := by
          rw [bytesOf_extract, List.drop_take, hdr, show i + 1 + (tkC 59 r).length - (i + 1) = (tkC 59 r).length by omega]
          have := @List.take_left _ (tkC 59 r) (drC 59 r)
          rw [htd] at this
          exact this
        apply ev_succ
        simp only [spec_Unescape.j2, hw]
        cases hdc : drC 59 r with
        | nil =>
          rw [hdc] at hlen
          simp only [List.length_nil] at hlen
          simp only [if_pos (show ((i + 1 + (tkC 59 r).length : Nat) : Int) = (s.size : Int) by omega), true_or, if_true]
          exact Ev.now _
        | cons a u =>
          rw [hdc] at hlen htd
          simp only [List.length_cons] at hlen
          obtain ⟨k1, k2, k3, k4, k5, k6, k7, k8⟩ := un_ar s.size i (tkC 59 r).length u.length r.length n out.length hrl hlen hs hi' hn ho
          simp only [if_neg k6, if_pos (show (0 : Int) ≤ ((i + 1 : Nat) : Int) from Int.natCast_nonneg _), if_pos (show ((i + 1 : Nat) : Int) ≤ ((i + 1 + (tkC 59 r).length : Nat) : Int) from Int.ofNat_le.2 (Nat.le_add_right _ _)), if_pos k7, Int.toNat_natCast]
          have hz : (s.extract (i + 1) (i + 1 + (tkC 59 r).length)).size ≤ 1048576 := by rw [← bytesOf_length, hex]; exact k8
          have hE := spec_l7Entity_ev (s.extract (i + 1) (i + 1 + (tkC 59 r).length)) hz
          rw [hex] at hE
          refine Ev.bind hE ?_
          have hrg := entB_range (tkC 59 r)
          by_cases q2 : entB (tkC 59 r) < 0
          · have hy : (a :: u = [] ∨ entB (tkC 59 r) < 0) := .inr q2
            simp only [if_pos q2, if_pos hy]; exact Ev.now _
          · have hne : ¬ (a :: u = [] ∨ entB (tkC 59 r) < 0) := by
              rintro (h | h)
              · cases h
              · exact q2 h
            simp only [if_neg q2, if_neg hne, List.tail_cons]
            refine Ev.bind hE ?_
            have hE256 : entB (tkC 59 r) % 256 = entB (tkC 59 r) := by clear hE hw hb k1 k6 k7; omega
            simp only [if_pos k4, k1, hE256]
            have ih := spec_Unescape_l0 s hs n (i + 1 + (tkC 59 r).length + 1) (out ++ [entB (tkC 59 r)]) k2 k3 (by rw [List.length_append]; exact k5)
            have e2 : (bytesOf s).drop (i + 1 + (tkC 59 r).length + 1) = u := by
              have e3 : ∀ m, (bytesOf s).drop (i + 1 + m + 1) = (r.drop m).drop 1 := fun m => by
                rw [← hdr, List.drop_drop, List.drop_drop]
                congr 1
              have e4 := @List.drop_left _ (tkC 59 r) (a :: u)
              rw [htd] at e4
              rw [e3, e4]; rfl
            rw [e2] at ih
            exact ih
      · simp only [if_neg q1, if_pos (show out.length < 140737488355328 by omega)]
        have ih := spec_Unescape_l0 s hs n (i + 1) (out ++ [c]) (by omega) (by omega) (by simp; omega)
        rw [hdr] at ih
        exact ih
theorem spec_Unescape_ev (s : ByteArray) (hs : s.size ≤ 1048576) : Ev (fun k => spec_Unescape.f k s) (resU (un (bytesOf s) [])) := by
  have := spec_Unescape_l0 s hs s.size 0 [] (by omega) (by omega) (by simp)
  rw [List.drop_zero] at this
  exact this
theorem impl_Unescape_l0 : ∀ (n : Nat) (s out : ByteArray), s.size ≤ n → s.size + out.size ≤ 1048576 → (60 : Int) ∉ bytesOf s → Ev (fun k => impl_Unescape.l0 k s out) (resU (un (bytesOf s) (bytesOf out)))
  | n, s, out, hn, hs, h60 => by
    have hl := bytesOf_length s
    obtain ⟨a, b, hc, ha, hb⟩ := cut_one s 38 (by omega)
    have h38 : (((38 : UInt8).toNat : Nat) : Int) = 38 := rfl
    rw [h38] at hc ha hb
    have htd := tk_dr 38 (bytesOf s)
    have hlen := drC_len 38 (bytesOf s)
    have has : a.size = (tkC 38 (bytesOf s)).length := by rw [← bytesOf_length, ha]
    have hf : (60 : Int) ∉ tkC 38 (bytesOf s) := fun h => h60 (by rw [← htd]; exact List.mem_append_left _ h)
    have h1 := un_front (tkC 38 (bytesOf s)) (drC 38 (bytesOf s)) (bytesOf out) hf (tkC_no 38 _)
    rw [htd] at h1
    rw [h1, ← ha, ← bytesOf_append]
    apply ev_succ
    simp only [impl_Unescape.l0, hc, Option.bind_some, if_pos (show out.size + a.size ≤ 9223372036854775807 by omega)]
    have hoa : (out ++ a).size = out.size + a.size := ByteArray.size_append
    cases hdc : drC 38 (bytesOf s) with
    | nil =>
      simp only [ne_eq, not_true, decide_false, Bool.false_eq_true, if_false]
      rw [un_nil]
      show Ev _ (strOfNums (bytesOf (out ++ a)), true)
      rw [strOfNums_bytesOf]
      exact Ev.now _
    | cons x u =>
      have hx := drC_head hdc
      subst hx
      rw [hdc] at hlen hb
      simp only [List.length_cons] at hlen
      simp only [List.tail_cons] at hb
      have hbs : b.size = u.length := by rw [← bytesOf_length, hb]
      simp only [ne_eq, List.cons_ne_nil, not_false_iff, decide_true, if_true]
      rw [un_cons, if_neg (by decide), if_pos rfl]
      obtain ⟨a2, b2, hc2, ha2, hb2⟩ := cut_one b 59 (by omega)
      have h59 : (((59 : UInt8).toNat : Nat) : Int) = 59 := rfl
      rw [h59, hb] at hc2 ha2 hb2
      have hlen2 := drC_len 59 u
      have ha2s : a2.size = (tkC 59 u).length := by rw [← bytesOf_length, ha2]
      obtain ⟨t, ht, hte⟩ := impl_named_eq a2 (by omega)
      rw [ha2] at ht hte
      simp only [hc2, Option.bind_some, ht]
      cases hd2 : drC 59 u with
      | nil =>
        simp only [ne_eq, not_true, decide_false, Bool.false_eq_true, if_false, true_or, if_true]
        exact Ev.now _
      | cons y v =>
        simp only [ne_eq, List.cons_ne_nil, not_false_iff, decide_true, if_true, false_or]
        by_cases q : 0 ≤ entB (tkC 59 u)
        · have hts : t.size = 1 := by rw [← bytesOf_length, hte q]; rfl
          rw [hd2] at hlen2 hb2
          simp only [List.length_cons] at hlen2
          simp only [List.tail_cons] at hb2
          have hb2s : b2.size = v.length := by rw [← bytesOf_length, hb2]
          simp only [decide_eq_true q, if_true, if_neg (show ¬ entB (tkC 59 u) < 0 by omega), hoa, if_pos (show out.size + a.size + t.size ≤ 9223372036854775807 by omega), List.tail_cons]
          match n, hn with
          | 0, hn => omega
          | n + 1, hn =>
          have ih := impl_Unescape_l0 n b2 ((out ++ a) ++ t) (by omega) (by rw [ByteArray.size_append, hoa]; omega) (by
            rw [hb2]
            intro hm
            apply h60
            rw [← htd, hdc]
            refine List.mem_append_right _ (List.mem_cons_of_mem _ ?_)
            rw [← tk_dr 59 u, hd2]
            exact List.mem_append_right _ (List.mem_cons_of_mem _ hm))
          rw [hb2, bytesOf_append _ t, hte q] at ih
          exact ih
        · simp only [decide_eq_false q, Bool.false_eq_true, if_false, if_pos (show entB (tkC 59 u) < 0 by omega)]
          exact Ev.now _
theorem impl_Unescape_ev (s : ByteArray) (hs : s.size ≤ 1048576) : Ev (fun k => impl_Unescape.f k s) (resU (un (bytesOf s) [])) := by
  unfold impl_Unescape.f
  have hc := contains_one s 60
  have h60 : (((60 : UInt8).toNat : Nat) : Int) = 60 := rfl
  rw [h60] at hc
  simp only [hc, Option.bind_some]
  refine ev_iteB (fun q => ?_) (fun q => ?_)
  · rw [un_60 _ _ _ (Nat.le_refl _) (bytesOf_range s) ((decb_iff _).1 q)]
    exact Ev.now _
  · have := impl_Unescape_l0 s.size s ⟨#[]⟩ (Nat.le_refl _) (by have c0 : (⟨#[]⟩ : ByteArray).size = 0 := rfl; omega) (fun h => by rw [decb_true h] at q; cases q)
    exact this

theorem un_esc (c : Int) (r out : List Int) : un (escC c ++ r) out = un r (out ++ [c]) := by
  have k : ∀ (nm : List Int) (v : Int), (∀ x ∈ nm, x ≠ 59) → entB nm = v → 0 ≤ v → un (38 :: (nm ++ 59 :: r)) out = un r (out ++ [v]) := by
    intro nm v hn he hv
    have e1 : ∀ l : List Int, (∀ x ∈ l, x ≠ 59) → tkC 59 (l ++ 59 :: r) = l ∧ drC 59 (l ++ 59 :: r) = 59 :: r := by
      intro l
      induction l with
      | nil => intro _; simp [tkC, drC]
      | cons a l ih =>
        intro h
        have ha := h a (by simp)
        obtain ⟨i1, i2⟩ := ih (fun x hx => h x (by simp [hx]))
        unfold tkC drC at *
        rw [List.cons_append, List.takeWhile_cons, List.dropWhile_cons]
        simp only [decide_eq_true ha, if_true, i1, i2]
        exact ⟨trivial, trivial⟩
    obtain ⟨i1, i2⟩ := e1 nm hn
    rw [un_cons, if_neg (by decide), if_pos rfl, i1, i2, he, if_neg (by rintro (h | h); exact absurd h (by simp); omega)]
    rfl
  unfold escC
  by_cases q1 : c = 38
  · rw [if_pos q1, q1]; exact k [97, 109, 112] 38 (by decide) rfl (by decide)
  rw [if_neg q1]
  by_cases q2 : c = 60
  · rw [if_pos q2, q2]; exact k [108, 116] 60 (by decide) rfl (by decide)
  rw [if_neg q2]
  by_cases q3 : c = 62
  · rw [if_pos q3, q3]; exact k [103, 116] 62 (by decide) rfl (by decide)
  rw [if_neg q3]
  by_cases q4 : c = 34
  · rw [if_pos q4, q4]; exact k [113, 117, 111, 116] 34 (by decide) rfl (by decide)
  rw [if_neg q4, List.cons_append, List.nil_append, un_cons, if_neg q2, if_neg q1]
theorem un_escL : ∀ (l out : List Int), un (escL l) out = some (out ++ l)
  | [], out => by rw [show escL [] = [] from rfl, un_nil, List.append_nil]
  | c :: l, out => by
    rw [show escL (c :: l) = escC c ++ escL l from by simp [escL], un_esc, un_escL l, List.append_assoc]; rfl
theorem escC_no (c : Int) : ∀ x ∈ escC c, x ≠ 60 ∧ x ≠ 34 := by
  unfold escC
  repeat' split
  all_goals first | decide | skip
  intro x hx
  simp only [List.mem_cons, List.not_mem_nil, or_false] at hx
  omega
theorem escL_no (l : List Int) : ∀ x ∈ escL l, x ≠ 60 ∧ x ≠ 34 := by
  intro x hx
  obtain ⟨c, _, h⟩ := List.mem_flatMap.1 hx
  exact escC_no c x h
theorem escL_range (l : List Int) (hr : ∀ x ∈ l, 0 ≤ x ∧ x < 256) : ∀ x ∈ escL l, 0 ≤ x ∧ x < 256 := by
  intro x hx
  obtain ⟨c, hc, h⟩ := List.mem_flatMap.1 hx
  have := hr c hc
  unfold escC at h
  repeat' split at h
  all_goals (simp only [List.mem_cons, List.not_mem_nil, or_false] at h; omega)

def lenB (s : ByteArray) (a b : Int) : Bool := decide (a ≤ (s.size : Int)) && decide ((s.size : Int) ≤ b)

theorem in_eq (c a b : Int) : impl_in.f c a b = some (decide (a ≤ c) && decide (c ≤ b)) := by
  unfold impl_in.f; split <;> simp [*] <;> omega

theorem isSmall_eq (c : Int) : impl_isSmall.f c = some (smallC c) := by
  unfold impl_isSmall.f smallC; split <;> simp [*] <;> omega

theorem isDigit_eq (c : Int) : impl_isDigit.f c = some (digitC c) := by
  unfold impl_isDigit.f digitC; split <;> simp [*] <;> omega

theorem l1Small_eq (c : Int) (h : wrap64 c = c) : spec_l1Small.f c = some (smallC c) := by
  unfold spec_l1Small.f; rw [h, l1In_eq]; rfl

/-- a small name -/
def snC (first : Bool) (c : Int) : Bool := smallC c || (!first && (digitC c || decide (c = 45)))
def snB : Nat → List Int → Bool
  | _, [] => true
  | i, c :: r => snC (i == 0) c && snB (i + 1) r
def smallName (s : ByteArray) : Bool := snB 0 (bytesOf s) && lenB s 1 20
theorem impl_SmallName_ev (s : ByteArray) (hs : s.size ≤ 140737488351232) : Ev (fun k => impl_SmallName.f k s) (smallName s) := by
  refine str_loop_st s (fun i (_ : Unit) k => impl_SmallName.l0 k s (i : Int)) (fun i _ r => snB i r && lenB s 1 20) (fun _ _ _ => True) ?_ ?_ hs 0 () trivial
  · intro i _ _ hi
    apply ev_succ; simp only [impl_SmallName.l0, if_neg (show ¬ (i : Int) < s.size by omega), in_eq, Option.bind_some]; exact Ev.now _
  · intro i _ c r _ h hb hi hw hw1 ih
    replace ih := ih () trivial
    apply ev_succ
    simp only [impl_SmallName.l0, if_pos (show (i : Int) < s.size by omega), if_pos (show (0 : Int) ≤ i by omega), hb, isSmall_eq, isDigit_eq, Option.bind_some, hw1]
    refine ev_iteB (fun q => ?_) (fun q => ev_ite (fun q0 => ?_) (fun q0 => ?_))
    · simpa [snB, snC, q] using ih
    · have : i = 0 := by omega
      subst this; simpa [snB, snC, q] using Ev.now false
    · have hi0 : (i == 0) = false := by simp; omega
      refine ev_iteB (fun q1 => ?_) (fun q1 => ev_ite (fun q2 => ?_) (fun q2 => ?_))
      · simpa [snB, snC, q, hi0, q1] using ih
      · subst q2; simpa [snB, snC, q, hi0, q1] using ih
      · simpa [snB, snC, q, hi0, q1, q2] using Ev.now false
theorem spec_SmallName_ev (s : ByteArray) (hs : s.size ≤ 140737488351232) : Ev (fun k => spec_SmallName.f k s) (smallName s) := by
  refine str_loop_st s (fun i (_ : Unit) k => spec_SmallName.l0 k s (i : Int)) (fun i _ r => snB i r && lenB s 1 20) (fun _ _ _ => True) ?_ ?_ hs 0 () trivial
  · intro i _ _ hi
    apply ev_succ; simp only [spec_SmallName.l0, if_neg (show ¬ (i : Int) < s.size by omega), l1In_eq, Option.bind_some]; exact Ev.now _
  · intro i _ c r _ h hb hi hw hw1 ih
    replace ih := ih () trivial
    apply ev_succ
    simp only [spec_SmallName.l0, if_pos (show (i : Int) < s.size by omega), if_pos (show (0 : Int) ≤ i by omega), hb, l1Small_eq c hw, l1Digit_eq c hw, Option.bind_some, hw1]
    refine ev_iteB (fun q => ?_) (fun q => ev_ite (fun q0 => ?_) (fun q0 => ?_))
    · simpa [snB, snC, q] using ih
    · have : i = 0 := by omega
      subst this; simpa [snB, snC, q] using Ev.now false
    · have hi0 : (i == 0) = false := by simp; omega
      refine ev_iteB (fun q1 => ?_) (fun q1 => ev_ite (fun q2 => ?_) (fun q2 => ?_))
      · simpa [snB, snC, q, hi0, q1] using ih
      · subst q2; simpa [snB, snC, q, hi0, q1] using ih
      · simpa [snB, snC, q, hi0, q1, q2] using Ev.now false

/-- a piece, byte by byte -/
structure Pc where
  k : Int
  name : List Int
  ns : List Int
  has : Bool
  s : List Int
/-- what a small name is made of -/
def nmC (c : Int) : Bool := smallC c || (digitC c || decide (c = 45))
def nmL (r : List Int) : List Int := r.takeWhile nmC
def nmR (r : List Int) : List Int := r.dropWhile nmC
def smallN (l : List Int) : Bool := snB 0 l && (decide (1 ≤ l.length) && decide (l.length ≤ 20))
/-- ` xmlns="` -/
def xmL : List Int := [32, 120, 109, 108, 110, 115, 61, 34]
def afterX (r : List Int) : Option (List Int) := if r.take 8 = xmL then some (r.drop 8) else none
/-- a mark's end -/
def closeM (name ns : List Int) (has : Bool) (r : List Int) : Option (Pc × List Int) :=
  if r.take 1 = [62] then some (⟨1, name, ns, has, []⟩, r.drop 1) else if r.take 2 = [47, 62] then some (⟨3, name, ns, has, []⟩, r.drop 2) else none
/-- a mark, of what stands behind its '<', and what stands behind it -/
def markM (r : List Int) : Option (Pc × List Int) :=
  if r.take 1 = [47] then
    (if (nmR (r.drop 1)).take 1 = [62] ∧ smallN (nmL (r.drop 1)) = true then some (⟨2, nmL (r.drop 1), [], false, []⟩, (nmR (r.drop 1)).drop 1) else none)
  else if smallN (nmL r) = true then
    (match afterX (nmR r) with
    | none => closeM (nmL r) [] false (nmR r)
    | some t => if drC 34 t = [] then none else
      match un (tkC 34 t) [] with
      | none => none
      | some ns => if 20 < ns.length then none else closeM (nmL r) ns true (drC 34 t).tail)
  else none
/-- the pieces of a text, so many steps -/
def pcs : Nat → List Int → List Pc → Option (List Pc)
  | 0, _, out => some out
  | _ + 1, [], out => some out
  | n + 1, c :: r, out => if out.length = 60 then none else
    if c = 60 then (match markM r with
      | none => none
      | some (p, u) => pcs n u (out ++ [p]))
    else (match un (tkC 60 (c :: r)) [] with
      | none => none
      | some s => pcs n (drC 60 (c :: r)) (out ++ [⟨4, [], [], false, s⟩]))
/-- a piece as it is written -/
def pcSp (p : Pc) : List Int := if p.has = true then xmL ++ (escL p.ns ++ [34]) else []
def pcText (p : Pc) : List Int :=
  if p.k = 1 then 60 :: (p.name ++ (pcSp p ++ [62])) else if p.k = 2 then 60 :: 47 :: (p.name ++ [62]) else if p.k = 3 then 60 :: (p.name ++ (pcSp p ++ [47, 62])) else escL p.s
/-- a piece that comes back -/
def PcOk (p : Pc) : Prop :=
  (p.k = 4 ∧ p.s ≠ [] ∧ p.name = [] ∧ p.ns = [] ∧ p.has = false) ∨
  ((p.k = 1 ∨ p.k = 3) ∧ smallN p.name = true ∧ p.s = [] ∧ (p.has = false → p.ns = []) ∧ p.ns.length ≤ 20) ∨
  (p.k = 2 ∧ smallN p.name = true ∧ p.s = [] ∧ p.has = false ∧ p.ns = [])
theorem smallN_nm (l : List Int) (h : smallN l = true) : (∀ c ∈ l, nmC c = true) ∧ l ≠ [] := by
  simp only [smallN, Bool.and_eq_true, decide_eq_true_eq] at h
  refine ⟨fun c hc => ?_, fun e => by rw [e] at h; simp at h⟩
  have key : ∀ (l : List Int) (i : Nat), snB i l = true → ∀ c ∈ l, nmC c = true := by
    intro l
    induction l with
    | nil => intro i _ c hc; cases hc
    | cons d r ih =>
      intro i hs c hc
      simp only [snB, Bool.and_eq_true] at hs
      rcases List.mem_cons.1 hc with rfl | hc
      · have := hs.1
        simp only [snC, Bool.or_eq_true, Bool.and_eq_true] at this
        simp only [nmC, Bool.or_eq_true]
        rcases this with h | ⟨_, h⟩
        · exact .inl h
        · exact .inr h
      · exact ih (i + 1) hs.2 c hc
  exact key l 0 h.1 c hc
theorem nm_split (l r : List Int) (h : ∀ c ∈ l, nmC c = true) (hr : ∀ c t, r = c :: t → nmC c = false) : nmL (l ++ r) = l ∧ nmR (l ++ r) = r := by
  have hr2 : r.takeWhile nmC = [] ∧ r.dropWhile nmC = r := by
    cases r with
    | nil => exact ⟨rfl, rfl⟩
    | cons c t => simp [hr c t rfl]
  unfold nmL nmR
  induction l with
  | nil => exact hr2
  | cons d l ih =>
    have hd := h d (by simp)
    have := ih (fun c hc => h c (by simp [hc]))
    simp only [List.cons_append, List.takeWhile_cons, List.dropWhile_cons, hd, if_true, this]
    exact ⟨trivial, trivial⟩
theorem tk_split (c : Int) (l r : List Int) (h : ∀ x ∈ l, x ≠ c) : tkC c (l ++ c :: r) = l ∧ drC c (l ++ c :: r) = c :: r := by
  unfold tkC drC
  induction l with
  | nil => simp
  | cons d l ih =>
    have hd := h d (by simp)
    have := ih (fun x hx => h x (by simp [hx]))
    simp only [List.cons_append, List.takeWhile_cons, List.dropWhile_cons, decide_eq_true hd, if_true, this]
    exact ⟨trivial, trivial⟩
theorem tk_end (c : Int) (l r : List Int) (h : ∀ x ∈ l, x ≠ c) (hr : r = [] ∨ ∃ t, r = c :: t) : tkC c (l ++ r) = l ∧ drC c (l ++ r) = r := by
  rcases hr with rfl | ⟨t, rfl⟩
  · rw [List.append_nil]
    unfold tkC drC
    induction l with
    | nil => exact ⟨rfl, rfl⟩
    | cons d l ih =>
      have hd := h d (by simp)
      have := ih (fun x hx => h x (by simp [hx]))
      simp only [List.takeWhile_cons, List.dropWhile_cons, decide_eq_true hd, if_true, this]
      exact ⟨trivial, trivial⟩
  · exact tk_split c l t h
theorem take_one (c : Int) (r : List Int) : (c :: r).take 1 = [c] := rfl
/-- a mark that was written comes back -/
theorem markM_text (p : Pc) (h : PcOk p) (hk : p.k ≠ 4) (rest : List Int) : ∃ t, pcText p = 60 :: t ∧ markM (t ++ rest) = some (p, rest) := by
  obtain ⟨k, name, ns, has, s⟩ := p
  rcases h with ⟨h4, _⟩ | ⟨hk13, hn, hs, hns, hl⟩ | ⟨hk2, hn, hs, hh, hns⟩
  · exact absurd h4 hk
  · obtain ⟨hnm, hne⟩ := smallN_nm _ hn
    simp only at hnm hne hn hs hns hl hk13
    subst hs
    obtain ⟨a, nt, rfl⟩ : ∃ a nt, name = a :: nt := by
      cases name with
      | nil => exact absurd rfl hne
      | cons a nt => exact ⟨a, nt, rfl⟩
    have ha : a ≠ 47 := by
      have := hnm a (by simp)
      rintro rfl
      exact absurd this (by decide)
    have hsl : ∀ u, ¬ ((a :: nt) ++ u).take 1 = [47] := fun u e => ha (by simpa using e)
    -- behind the name
    have fin : ∀ (E : List Int) (kk : Int), (E = [62] ∧ kk = 1) ∨ (E = [47, 62] ∧ kk = 3) → markM ((a :: nt) ++ (pcSp ⟨kk, a :: nt, ns, has, []⟩ ++ (E ++ rest))) = some (⟨kk, a :: nt, ns, has, []⟩, rest) := by
      intro E kk hE
      have hcl : ∀ ns' has', closeM (a :: nt) ns' has' (E ++ rest) = some (⟨kk, a :: nt, ns', has', []⟩, rest) := by
        intro ns' has'
        rcases hE with ⟨rfl, rfl⟩ | ⟨rfl, rfl⟩
        · simp [closeM]
        · simp [closeM]
      unfold markM
      rw [if_neg (hsl _)]
      cases has with
      | false =>
        have hn0 := hns rfl
        subst hn0
        have hE1 : ∀ c t, E ++ rest = c :: t → nmC c = false := by
          rcases hE with ⟨rfl, _⟩ | ⟨rfl, _⟩
          · intro c t e; simp only [List.cons_append, List.nil_append] at e; rw [← (List.cons.inj e).1]; decide
          · intro c t e; simp only [List.cons_append, List.nil_append] at e; rw [← (List.cons.inj e).1]; decide
        obtain ⟨e1, e2⟩ := nm_split (a :: nt) (E ++ rest) hnm hE1
        have e3 : pcSp ⟨kk, a :: nt, [], false, []⟩ = [] := rfl
        rw [e3, List.nil_append, e1, e2, if_pos hn]
        have e4 : afterX (E ++ rest) = none := by
          unfold afterX
          rw [if_neg]
          rcases hE with ⟨rfl, _⟩ | ⟨rfl, _⟩
          · intro e
            have := congrArg (fun l => l[0]?) e
            simp [xmL] at this
          · intro e
            have := congrArg (fun l => l[0]?) e
            simp [xmL] at this
        rw [e4]
        exact hcl [] false
      | true =>
        have e3 : pcSp ⟨kk, a :: nt, ns, true, []⟩ = xmL ++ (escL ns ++ [34]) := rfl
        rw [e3]
        have hE1 : ∀ c t, (xmL ++ (escL ns ++ [34])) ++ (E ++ rest) = c :: t → nmC c = false := by
          intro c t e
          simp only [xmL, List.cons_append] at e
          rw [← (List.cons.inj e).1]; decide
        obtain ⟨e1, e2⟩ := nm_split (a :: nt) _ hnm hE1
        rw [e1, e2, if_pos hn]
        have e4 : afterX ((xmL ++ (escL ns ++ [34])) ++ (E ++ rest)) = some (escL ns ++ 34 :: (E ++ rest)) := by
          unfold afterX
          rw [if_pos]
          · simp [xmL]
          · simp [xmL]
        rw [e4]
        simp only []
        obtain ⟨e5, e6⟩ := tk_split 34 (escL ns) (E ++ rest) (fun x hx => (escL_no ns x hx).2)
        rw [e5, e6, un_escL, List.nil_append]
        simp only [List.cons_ne_nil, if_false, List.tail_cons, if_neg (show ¬ 20 < ns.length by omega)]
        exact hcl ns true
    rcases hk13 with rfl | rfl
    · refine ⟨(a :: nt) ++ (pcSp ⟨1, a :: nt, ns, has, []⟩ ++ [62]), by simp [pcText], ?_⟩
      have := fin [62] 1 (.inl ⟨rfl, rfl⟩)
      rw [List.append_assoc, List.append_assoc]; exact this
    · refine ⟨(a :: nt) ++ (pcSp ⟨3, a :: nt, ns, has, []⟩ ++ [47, 62]), by simp [pcText], ?_⟩
      have := fin [47, 62] 3 (.inr ⟨rfl, rfl⟩)
      rw [List.append_assoc, List.append_assoc]; exact this
  · obtain ⟨hnm, hne⟩ := smallN_nm _ hn
    simp only at hnm hne hn hs hns hh hk2
    subst hs; subst hh; subst hns; subst hk2
    refine ⟨47 :: (name ++ [62]), by simp [pcText], ?_⟩
    unfold markM
    have e0 : (47 :: (name ++ [62]) ++ rest).take 1 = [47] := rfl
    have e1 : (47 :: (name ++ [62]) ++ rest).drop 1 = name ++ (62 :: rest) := by simp
    rw [if_pos e0, e1]
    obtain ⟨e2, e3⟩ := nm_split name (62 :: rest) hnm (fun c t e => by rw [← (List.cons.inj e).1]; decide)
    rw [e2, e3, if_pos ⟨rfl, hn⟩]
    rfl
/-- the text of pieces, one behind the other -/
def pcsText (l : List Pc) : List Int := l.flatMap pcText
def NoTwo : List Pc → Prop
  | [] => True
  | [_] => True
  | p :: q :: r => (p.k = 4 → q.k ≠ 4) ∧ NoTwo (q :: r)
theorem escL_ne (s : List Int) (h : s ≠ []) : ∃ c t, escL s = c :: t ∧ c ≠ 60 := by
  cases s with
  | nil => exact absurd rfl h
  | cons a r =>
    have he : escL (a :: r) = escC a ++ escL r := by simp [escL]
    have hn : escC a ≠ [] := by unfold escC; repeat' split
                                all_goals simp
    cases hc : escC a with
    | nil => exact absurd hc hn
    | cons c t =>
      refine ⟨c, t ++ escL r, by rw [he, hc]; rfl, ?_⟩
      exact (escC_no a c (by rw [hc]; simp)).1
theorem pcs_text : ∀ (l : List Pc) (n : Nat) (out : List Pc), (∀ p ∈ l, PcOk p) → NoTwo l → out.length + l.length ≤ 60 → (pcsText l).length ≤ n → pcs n (pcsText l) out = some (out ++ l)
  | [], n, out, _, _, _, _ => by
    cases n <;> simp [pcsText, pcs]
  | p :: r, n, out, hok, h2, h60, hn => by
    have hp := hok p (by simp)
    have e : pcsText (p :: r) = pcText p ++ pcsText r := by simp [pcsText]
    rw [e] at hn ⊢
    rw [List.length_append] at hn
    simp only [List.length_cons] at h60
    have h2r : NoTwo r := by
      cases r with
      | nil => trivial
      | cons q r => exact h2.2
    by_cases hk : p.k = 4
    · -- a text: up to the next mark, or the end
      obtain ⟨_, hs, hnm, hns, hh⟩ : p.k = 4 ∧ p.s ≠ [] ∧ p.name = [] ∧ p.ns = [] ∧ p.has = false := by
        rcases hp with h | ⟨h, _⟩ | ⟨h, _⟩
        · exact h
        · omega
        · omega
      have et : pcText p = escL p.s := by unfold pcText; rw [if_neg (by omega), if_neg (by omega), if_neg (by omega)]
      have hnext : pcsText r = [] ∨ ∃ t, pcsText r = 60 :: t := by
        cases r with
        | nil => exact .inl rfl
        | cons q r' =>
          have hq := h2.1 hk
          obtain ⟨t, ht, _⟩ := markM_text q (hok q (by simp)) hq []
          exact .inr ⟨t ++ pcsText r', by simp [pcsText, ht]⟩
      obtain ⟨c, t, hc, hc60⟩ := escL_ne p.s hs
      obtain ⟨e1, e2⟩ := tk_end 60 (escL p.s) (pcsText r) (fun x hx => (escL_no _ x hx).1) hnext
      rw [et] at hn ⊢
      rw [hc] at hn e1 e2 ⊢
      simp only [List.length_cons] at hn
      match n, hn with
      | 0, hn => omega
      | n + 1, hn =>
      rw [List.cons_append] at e1 e2 ⊢
      rw [pcs, if_neg (by omega), if_neg hc60, e1, e2, ← hc, un_escL, List.nil_append]
      simp only []
      have hpe : (⟨4, [], [], false, p.s⟩ : Pc) = p := by
        obtain ⟨k, name, ns, has, s⟩ := p
        simp only at hk hnm hns hh
        rw [hk, hnm, hns, hh]
      rw [hpe, pcs_text r n (out ++ [p]) (fun q hq => hok q (by simp [hq])) h2r (by rw [List.length_append]; simp; omega) (by omega), List.append_assoc]
      rfl
    · obtain ⟨t, ht, hm⟩ := markM_text p hp hk (pcsText r)
      rw [ht] at hn ⊢
      simp only [List.length_cons] at hn
      match n, hn with
      | 0, hn => omega
      | n + 1, hn =>
      rw [List.cons_append, pcs, if_neg (by omega), if_pos rfl, hm]
      simp only []
      rw [pcs_text r n (out ++ [p]) (fun q hq => hok q (by simp [hq])) h2r (by rw [List.length_append]; simp; omega) (by omega), List.append_assoc]
      rfl

theorem isPlain_eq (c : Int) : impl_isPlain.f c = some (plainC c) := by
  unfold impl_isPlain.f plainC; split <;> simp [*] <;> omega
def plainB (l : List Int) : Bool := l.all plainC
theorem impl_Plain_ev (s : ByteArray) (hs : s.size ≤ 140737488351232) : Ev (fun k => impl_Plain.f k s) (plainB (bytesOf s)) := by
  refine str_loop s (fun i k => impl_Plain.l0 k s (i : Int)) plainB ?_ ?_ hs 0
  · intro i hi
    apply ev_succ; simp only [impl_Plain.l0, if_neg (show ¬ (i : Int) < s.size by omega)]; exact Ev.now _
  · intro i c r h hb hi hw hw1 ih
    apply ev_succ
    simp only [impl_Plain.l0, if_pos (show (i : Int) < s.size by omega), if_pos (show (0 : Int) ≤ i by omega), hb, isPlain_eq, Option.bind_some, hw1]
    refine ev_ite (fun h => ?_) (fun h => ?_)
    · simpa [plainB, h] using ih
    · simpa [plainB, h] using Ev.now _
theorem spec_Plain_ev (s : ByteArray) (hs : s.size ≤ 140737488351232) : Ev (fun k => spec_Plain.f k s) (plainB (bytesOf s)) := by
  refine str_loop s (fun i k => spec_Plain.l0 k s (i : Int)) plainB ?_ ?_ hs 0
  · intro i hi
    apply ev_succ; simp only [spec_Plain.l0, if_neg (show ¬ (i : Int) < s.size by omega)]; exact Ev.now _
  · intro i c r h hb hi hw hw1 ih
    apply ev_succ
    simp only [spec_Plain.l0, if_pos (show (i : Int) < s.size by omega), if_pos (show (0 : Int) ≤ i by omega), hb, hw, l1In_eq, Option.bind_some, hw1]
    refine ev_ite (fun h => ?_) (fun h => ?_)
    · have : plainC c = true := h
      simpa [plainB, this] using ih
    · have : plainC c = false := by simpa [plainC] using h
      simpa [plainB, this] using Ev.now _

theorem smallName_N (s : ByteArray) : smallName s = smallN (bytesOf s) := by
  unfold smallName smallN lenB
  rw [← size_len]
  congr 1
  congr 1
  · rw [decide_eq_decide]; omega
  · rw [decide_eq_decide]; omega
theorem l7At_eq (s : ByteArray) (p : Nat) (t : ByteArray) (hp : p ≤ s.size) (hs : s.size ≤ 1048576) (ht : t.size ≤ 100) : spec_l7At.f s (p : Int) t = some (decb (((bytesOf s).drop p).take t.size = bytesOf t)) := by
  have hw : wrap64 ((p : Int) + (t.size : Int)) = ((p + t.size : Nat) : Int) := by rw [wrap_id (by omega) (by omega)]; omega
  unfold spec_l7At.f
  rw [hw]
  by_cases q : ((p + t.size : Nat) : Int) ≤ (s.size : Int)
  · rw [if_pos q, if_pos (by omega), if_pos (by omega), Int.toNat_natCast, Int.toNat_natCast]
    congr 1
    have hb : bytesOf (s.extract p (p + t.size)) = ((bytesOf s).drop p).take t.size := by rw [bytesOf_extract, List.drop_take, show p + t.size - p = t.size by omega]
    rw [Bool.eq_iff_iff, beq_iff_eq, decb_iff, toList_iff, ← hb]
    exact ⟨fun h => by rw [h], fun h => bytesOf_inj h⟩
  · rw [if_neg q]
    congr 1
    rw [decb_false]
    intro h
    have := congrArg List.length h
    rw [List.length_take, List.length_drop, bytesOf_length, bytesOf_length] at this
    omega
theorem nmL_cons (c : Int) (r : List Int) : (nmC c = true → nmL (c :: r) = c :: nmL r ∧ nmR (c :: r) = nmR r) ∧ (nmC c = false → nmL (c :: r) = [] ∧ nmR (c :: r) = c :: r) := by
  unfold nmL nmR
  refine ⟨fun h => ?_, fun h => ?_⟩
  · simp [h]
  · simp [h]
theorem nm_app (r : List Int) : nmL r ++ nmR r = r := List.takeWhile_append_dropWhile
theorem nm_drop (r : List Int) : r.drop (nmL r).length = nmR r := by
  have h := @List.drop_left _ (nmL r) (nmR r)
  rw [nm_app] at h
  exact h
theorem nm_len (r : List Int) : (nmL r).length + (nmR r).length = r.length := by rw [← List.length_append, nm_app]
theorem spec_l7Name_l0 (s : ByteArray) (hs : s.size ≤ 1048576) : ∀ (n p : Nat), s.size - p = n → p ≤ s.size → Ev (fun k => spec_l7Name.l0 k s (p : Int)) (((p + (nmL ((bytesOf s).drop p)).length : Nat) : Int))
  | 0, p, hn, hp => by
    apply ev_succ
    simp only [spec_l7Name.l0, if_neg (show ¬ (p : Int) < s.size by omega)]
    rw [List.drop_eq_nil_of_le (by rw [bytesOf_length]; omega)]
    exact Ev.now _
  | n + 1, p, hn, hp => by
    have hl := bytesOf_length s
    cases hd : (bytesOf s).drop p with
    | nil => have := size_drop hd; omega
    | cons c r =>
      obtain ⟨hb, hi, hdr⟩ := bt_drop hd
      have hwb := wrap_byte hd
      have hw : wrap64 ((p : Int) + 1) = ((p + 1 : Nat) : Int) := by rw [wrap_id (by omega) (by omega)]; omega
      have ih := spec_l7Name_l0 s hs n (p + 1) (by omega) (by omega)
      rw [hdr] at ih
      apply ev_succ
      simp only [spec_l7Name.l0, if_pos (show (p : Int) < s.size by omega), if_pos (show (0 : Int) ≤ (p : Int) by omega), hb, l1Small_eq c hwb, l1Digit_eq c hwb, Option.bind_some, hw]
      by_cases q : nmC c = true
      · have e := ((nmL_cons c r).1 q).1
        rw [e, List.length_cons, show p + ((nmL r).length + 1) = p + 1 + (nmL r).length by omega]
        simp only [nmC, Bool.or_eq_true] at q
        by_cases q1 : smallC c = true
        · simp only [q1, if_true]; exact ih
        · simp only [Bool.not_eq_true] at q1
          simp only [q1, Bool.false_eq_true, if_false]
          by_cases q2 : digitC c = true
          · simp only [q2, if_true]; exact ih
          · simp only [Bool.not_eq_true] at q2
            simp only [q2, Bool.false_eq_true, if_false]
            have q3 : c = 45 := by simpa [q1, q2] using q
            simp only [if_pos q3]; exact ih
      · simp only [Bool.not_eq_true] at q
        have e := ((nmL_cons c r).2 q).1
        rw [e, List.length_nil, Nat.add_zero]
        simp only [nmC, Bool.or_eq_false_iff, decide_eq_false_iff_not] at q
        simp only [q.1, q.2.1, Bool.false_eq_true, if_false, if_neg q.2.2]
        exact Ev.now _
theorem spec_l7Name_ev (s : ByteArray) (hs : s.size ≤ 1048576) (p : Nat) (hp : p ≤ s.size) : Ev (fun k => spec_l7Name.f k s (p : Int)) (((p + (nmL ((bytesOf s).drop p)).length : Nat) : Int)) :=
  spec_l7Name_l0 s hs _ p rfl hp
theorem impl_nameAt_l0 (s : ByteArray) (hs : s.size ≤ 1048576) : ∀ (n p : Nat), s.size - p = n → p ≤ s.size → Ev (fun k => impl_nameAt.l0 k s (p : Int)) (s.extract 0 (p + (nmL ((bytesOf s).drop p)).length), s.extract (p + (nmL ((bytesOf s).drop p)).length) s.size)
  | 0, p, hn, hp => by
    apply ev_succ
    simp only [impl_nameAt.l0, if_neg (show ¬ (p : Int) < s.size by omega), if_pos (show (0 : Int) ≤ (p : Int) by omega), if_pos (show (p : Int) ≤ s.size by omega), Int.toNat_natCast]
    rw [List.drop_eq_nil_of_le (by rw [bytesOf_length]; omega)]
    exact Ev.now _
  | n + 1, p, hn, hp => by
    have hl := bytesOf_length s
    cases hd : (bytesOf s).drop p with
    | nil => have := size_drop hd; omega
    | cons c r =>
      obtain ⟨hb, hi, hdr⟩ := bt_drop hd
      have hw : wrap64 ((p : Int) + 1) = ((p + 1 : Nat) : Int) := by rw [wrap_id (by omega) (by omega)]; omega
      have ih := impl_nameAt_l0 s hs n (p + 1) (by omega) (by omega)
      rw [hdr] at ih
      apply ev_succ
      simp only [impl_nameAt.l0, if_pos (show (p : Int) < s.size by omega), if_pos (show (0 : Int) ≤ (p : Int) by omega), hb, isSmall_eq, isDigit_eq, Option.bind_some, hw, if_pos (show (p : Int) ≤ s.size by omega), Int.toNat_natCast]
      by_cases q : nmC c = true
      · have e := ((nmL_cons c r).1 q).1
        rw [e, List.length_cons, show p + ((nmL r).length + 1) = p + 1 + (nmL r).length by omega]
        simp only [nmC, Bool.or_eq_true] at q
        by_cases q1 : smallC c = true
        · simp only [q1, if_true]; exact ih
        · simp only [Bool.not_eq_true] at q1
          simp only [q1, Bool.false_eq_true, if_false]
          by_cases q2 : digitC c = true
          · simp only [q2, if_true]; exact ih
          · simp only [Bool.not_eq_true] at q2
            simp only [q2, Bool.false_eq_true, if_false]
            have q3 : c = 45 := by simpa [q1, q2] using q
            simp only [if_pos q3]; exact ih
      · simp only [Bool.not_eq_true] at q
        have e := ((nmL_cons c r).2 q).1
        rw [e, List.length_nil, Nat.add_zero]
        simp only [nmC, Bool.or_eq_false_iff, decide_eq_false_iff_not] at q
        simp only [q.1, q.2.1, Bool.false_eq_true, if_false, if_neg q.2.2]
        exact Ev.now _
theorem impl_nameAt_ev (s : ByteArray) (hs : s.size ≤ 1048576) : ∃ a b, Ev (fun k => impl_nameAt.f k s) (a, b) ∧ bytesOf a = nmL (bytesOf s) ∧ bytesOf b = nmR (bytesOf s) := by
  have h := impl_nameAt_l0 s hs s.size 0 (by omega) (by omega)
  rw [List.drop_zero, Nat.zero_add] at h
  refine ⟨_, _, h, ?_, ?_⟩
  · rw [bytesOf_extract, List.drop_zero]
    have := @List.take_left _ (nmL (bytesOf s)) (nmR (bytesOf s))
    rw [nm_app] at this
    exact this
  · rw [bytesOf_extract, List.take_of_length_le (by rw [bytesOf_length]; exact Nat.le_refl _), nm_drop]
/-- CutPrefix, byte by byte -/
theorem cutPrefix_eq (s : ByteArray) (t : List UInt8) : ∃ a, strings_CutPrefix.f s ⟨t.toArray⟩ = some (a, decb ((bytesOf s).take t.length = t.map fun b => (b.toNat : Int))) ∧ ((bytesOf s).take t.length = (t.map fun b => (b.toNat : Int)) → bytesOf a = (bytesOf s).drop t.length) ∧ (¬ (bytesOf s).take t.length = (t.map fun b => (b.toNat : Int)) → a = s) := by
  have hb : bytesOf s = s.data.toList.map fun b => (b.toNat : Int) := rfl
  have hiff : Lib.hasPrefix s.data.toList t = true ↔ (bytesOf s).take t.length = t.map fun b => (b.toNat : Int) := by
    unfold Lib.hasPrefix
    rw [List.isPrefixOf_iff_prefix, List.prefix_iff_eq_take, hb, ← List.map_take]
    constructor
    · intro h; rw [← h]
    · intro h; exact (List.map_inj_right (fun x y hxy => UInt8.toNat_inj.mp (by omega)) |>.mp h).symm
  refine ⟨⟨(Lib.trimPrefix s.data.toList t).toArray⟩, ?_, fun h => ?_, fun h => ?_⟩
  · show some (_, Lib.hasPrefix s.data.toList t) = _
    congr 2
    rw [Bool.eq_iff_iff, hiff, decb_iff]
  · rw [bytesOf_mk, Lib.trimPrefix, if_pos (hiff.2 h), hb, List.map_drop]
  · rw [Lib.trimPrefix, if_neg (fun e => h (hiff.1 e))]

theorem escL_len : ∀ l : List Int, (escL l).length ≤ 6 * l.length
  | [] => by simp [escL]
  | c :: l => by
    rw [show escL (c :: l) = escC c ++ escL l from by simp [escL], List.length_append, List.length_cons]
    have := escC_len c
    have := escL_len l
    omega

def esc (s : ByteArray) : ByteArray := strOfNums (escL (bytesOf s))
theorem strOfNums_len (l : List Int) : (strOfNums l).size = l.length := by
  unfold strOfNums
  show (List.map _ l).toArray.size = _
  simp
theorem esc_size (s : ByteArray) : (esc s).size ≤ 6 * s.size := by
  unfold esc
  rw [strOfNums_len]
  have := escL_len (bytesOf s)
  rw [bytesOf_length] at this
  exact this
/-- a mark's or a text's text -/
def spaceT (has : Bool) (ns : ByteArray) : ByteArray := if has = true then ((⟨#[32, 120, 109, 108, 110, 115, 61, 34]⟩ : ByteArray) ++ esc ns) ++ (⟨#[34]⟩ : ByteArray) else (⟨#[]⟩ : ByteArray)
def pieceT (K : Int) (name sp s : ByteArray) : ByteArray :=
  if K = 1 then (((⟨#[60]⟩ : ByteArray) ++ name) ++ sp) ++ (⟨#[62]⟩ : ByteArray) else if K = 2 then ((⟨#[60, 47]⟩ : ByteArray) ++ name) ++ (⟨#[62]⟩ : ByteArray) else if K = 3 then (((⟨#[60]⟩ : ByteArray) ++ name) ++ sp) ++ (⟨#[47, 62]⟩ : ByteArray) else esc s
theorem spaceT_size (has : Bool) (ns : ByteArray) : (spaceT has ns).size ≤ 9 + 6 * ns.size := by
  have := esc_size ns
  unfold spaceT
  split
  · simp only [ByteArray.size_append, show (⟨#[32, 120, 109, 108, 110, 115, 61, 34]⟩ : ByteArray).size = 8 from rfl, show (⟨#[34]⟩ : ByteArray).size = 1 from rfl]; omega
  · show 0 ≤ _; omega
theorem sz1 (x : UInt8) : (⟨#[x]⟩ : ByteArray).size = 1 := rfl
theorem sz2 (x y : UInt8) : (⟨#[x, y]⟩ : ByteArray).size = 2 := rfl
theorem pieceT_size (K : Int) (name sp s : ByteArray) : (pieceT K name sp s).size ≤ 3 + name.size + sp.size + 6 * s.size := by
  have := esc_size s
  unfold pieceT
  repeat' split
  all_goals (try simp only [ByteArray.size_append, sz1, sz2])
  all_goals omega
theorem impl_PieceText_ev (K : Int) (name ns s : ByteArray) (has : Bool) (h0 : name.size ≤ 1048576) (h1 : ns.size ≤ 1048576) (h2 : s.size ≤ 1048576) : Ev (fun k => impl_PieceText.f k K name ns has s) (pieceT K name (spaceT has ns) s) := by
  have e1 := esc_size ns
  have hj : ∀ sp : ByteArray, sp.size ≤ 9 + 6 * ns.size → Ev (fun k => impl_PieceText.j0 k sp K name ns has s) (pieceT K name sp s) := by
    intro sp hsp
    apply ev_succ
    simp only [impl_PieceText.j0, ByteArray.size_append, sz1, sz2, if_pos (show 1 + name.size ≤ 9223372036854775807 by omega), if_pos (show 1 + name.size + sp.size ≤ 9223372036854775807 by omega), if_pos (show 1 + name.size + sp.size + 1 ≤ 9223372036854775807 by omega), if_pos (show 2 + name.size ≤ 9223372036854775807 by omega), if_pos (show 2 + name.size + 1 ≤ 9223372036854775807 by omega), if_pos (show 1 + name.size + sp.size + 2 ≤ 9223372036854775807 by omega), pieceT]
    refine ev_ite (fun q => ?_) (fun q => ?_)
    · rw [if_pos q]; exact Ev.now _
    rw [if_neg q]
    refine ev_ite (fun q => ?_) (fun q => ?_)
    · rw [if_pos q]; exact Ev.now _
    rw [if_neg q]
    refine ev_ite (fun q => ?_) (fun q => ?_)
    · rw [if_pos q]; exact Ev.now _
    rw [if_neg q]
    exact Ev.bind (impl_Escape_ev s (by omega)) (Ev.now _)
  unfold impl_PieceText.f
  refine ev_iteB (fun q => ?_) (fun q => ?_)
  · refine Ev.bind (impl_Escape_ev ns (by omega)) ?_
    change Ev (fun k => if 8 + (esc ns).size ≤ 9223372036854775807 then (if ((⟨#[32, 120, 109, 108, 110, 115, 61, 34]⟩ : ByteArray) ++ esc ns).size + 1 ≤ 9223372036854775807 then (impl_PieceText.j0 k (((⟨#[32, 120, 109, 108, 110, 115, 61, 34]⟩ : ByteArray) ++ esc ns) ++ (⟨#[34]⟩ : ByteArray)) K name ns has s) else none) else none) _
    have e8 : ((⟨#[32, 120, 109, 108, 110, 115, 61, 34]⟩ : ByteArray) ++ esc ns).size = 8 + (esc ns).size := by rw [ByteArray.size_append]; rfl
    simp only [e8, if_pos (show 8 + (esc ns).size ≤ 9223372036854775807 by omega), if_pos (show 8 + (esc ns).size + 1 ≤ 9223372036854775807 by omega)]
    have es : spaceT has ns = ((⟨#[32, 120, 109, 108, 110, 115, 61, 34]⟩ : ByteArray) ++ esc ns) ++ (⟨#[34]⟩ : ByteArray) := by unfold spaceT; rw [if_pos q]
    rw [es]
    refine hj _ ?_
    rw [ByteArray.size_append, e8, sz1]
    omega
  · have es : spaceT has ns = (⟨#[]⟩ : ByteArray) := by unfold spaceT; rw [if_neg (by rw [q]; simp)]
    rw [es]
    exact hj _ (by show 0 ≤ _; omega)
theorem spec_PieceText_ev (K : Int) (name ns s : ByteArray) (has : Bool) (h0 : name.size ≤ 1048576) (h1 : ns.size ≤ 1048576) (h2 : s.size ≤ 1048576) : Ev (fun k => spec_PieceText.f k K name ns has s) (pieceT K name (spaceT has ns) s) := by
  have e1 := esc_size ns
  have hj : ∀ sp : ByteArray, sp.size ≤ 9 + 6 * ns.size → Ev (fun k => spec_PieceText.j0 k sp K name ns has s) (pieceT K name sp s) := by
    intro sp hsp
    apply ev_succ
    simp only [spec_PieceText.j0, ByteArray.size_append, sz1, sz2, if_pos (show 1 + name.size ≤ 9223372036854775807 by omega), if_pos (show 1 + name.size + sp.size ≤ 9223372036854775807 by omega), if_pos (show 1 + name.size + sp.size + 1 ≤ 9223372036854775807 by omega), if_pos (show 2 + name.size ≤ 9223372036854775807 by omega), if_pos (show 2 + name.size + 1 ≤ 9223372036854775807 by omega), if_pos (show 1 + name.size + sp.size + 2 ≤ 9223372036854775807 by omega), pieceT]
    refine ev_ite (fun q => ?_) (fun q => ?_)
    · rw [if_pos q]; exact Ev.now _
    rw [if_neg q]
    refine ev_ite (fun q => ?_) (fun q => ?_)
    · rw [if_pos q]; exact Ev.now _
    rw [if_neg q]
    refine ev_ite (fun q => ?_) (fun q => ?_)
    · rw [if_pos q]; exact Ev.now _
    rw [if_neg q]
    exact Ev.bind (spec_Escape_ev s (by omega)) (Ev.now _)
  unfold spec_PieceText.f
  refine ev_iteB (fun q => ?_) (fun q => ?_)
  · refine Ev.bind (spec_Escape_ev ns (by omega)) ?_
    change Ev (fun k => if 8 + (esc ns).size ≤ 9223372036854775807 then (if ((⟨#[32, 120, 109, 108, 110, 115, 61, 34]⟩ : ByteArray) ++ esc ns).size + 1 ≤ 9223372036854775807 then (spec_PieceText.j0 k (((⟨#[32, 120, 109, 108, 110, 115, 61, 34]⟩ : ByteArray) ++ esc ns) ++ (⟨#[34]⟩ : ByteArray)) K name ns has s) else none) else none) _
    have e8 : ((⟨#[32, 120, 109, 108, 110, 115, 61, 34]⟩ : ByteArray) ++ esc ns).size = 8 + (esc ns).size := by rw [ByteArray.size_append]; rfl
    simp only [e8, if_pos (show 8 + (esc ns).size ≤ 9223372036854775807 by omega), if_pos (show 8 + (esc ns).size + 1 ≤ 9223372036854775807 by omega)]
    have es : spaceT has ns = ((⟨#[32, 120, 109, 108, 110, 115, 61, 34]⟩ : ByteArray) ++ esc ns) ++ (⟨#[34]⟩ : ByteArray) := by unfold spaceT; rw [if_pos q]
    rw [es]
    refine hj _ ?_
    rw [ByteArray.size_append, e8, sz1]
    omega
  · have es : spaceT has ns = (⟨#[]⟩ : ByteArray) := by unfold spaceT; rw [if_neg (by rw [q]; simp)]
    rw [es]
    exact hj _ (by show 0 ≤ _; omega)

/-- what the reference's mark answers -/
def resM (s : ByteArray) : Option (Pc × List Int) → Int × ByteArray × ByteArray × Bool × ByteArray × Int
  | none => (0, (⟨#[]⟩ : ByteArray), (⟨#[]⟩ : ByteArray), false, (⟨#[]⟩ : ByteArray), (-1))
  | some (p, u) => (p.k, strOfNums p.name, strOfNums p.ns, p.has, strOfNums p.s, (s.size : Int) - (u.length : Int))
theorem decb_no {p : Prop} (h : decb p = false) : ¬ p := fun hp => by rw [decb_true hp] at h; cases h
theorem l7At_ev (s : ByteArray) (p : Nat) (t : List UInt8) (hp : p ≤ s.size) (hs : s.size ≤ 1048576) (ht : t.length ≤ 100) : spec_l7At.f s (p : Int) ⟨t.toArray⟩ = some (decb (((bytesOf s).drop p).take t.length = t.map fun b => (b.toNat : Int))) := by
  have h := l7At_eq s p ⟨t.toArray⟩ hp hs ht
  exact h
theorem l7Mark_j1 (s : ByteArray) (hs : s.size ≤ 1048576) (name ns : List Int) (has : Bool) (p : Nat) (hp : p ≤ s.size) : Ev (fun k => spec_l7Mark.j1 k s (p : Int) 1 (strOfNums name) (strOfNums ns) has (⟨#[]⟩ : ByteArray)) (resM s (closeM name ns has ((bytesOf s).drop p))) := by
  have e1 := l7At_ev s p [62] hp hs (by decide)
  have e2 := l7At_ev s p [47, 62] hp hs (by decide)
  have hl : ((bytesOf s).drop p).length = s.size - p := by rw [List.length_drop, bytesOf_length]
  have z : (⟨#[]⟩ : ByteArray) = strOfNums [] := rfl
  apply ev_succ
  simp only [spec_l7Mark.j1]
  change Ev (fun k => (spec_l7At.f s (p : Int) ⟨[(62 : UInt8)].toArray⟩).bind _) _
  simp only [e1, Option.bind_some]
  unfold closeM
  refine ev_iteB (fun q => ?_) (fun q => ?_)
  · have q' : ((bytesOf s).drop p).take 1 = [62] := (decb_iff _).1 q
    rw [if_pos q']
    have hlt : p < s.size := by
      rcases Nat.lt_or_ge p s.size with h | h
      · exact h
      · rw [List.drop_eq_nil_of_le (by rw [bytesOf_length]; exact h)] at q'; cases q'
    rw [wrap_id (x := (p : Int) + 1) (by omega) (by omega), z]
    have e : (s.size : Int) - ((((bytesOf s).drop p).drop 1).length : Int) = (p : Int) + 1 := by rw [List.length_drop, hl]; omega
    unfold resM
    simp only [e]
    exact Ev.now _
  · have q' : ¬ ((bytesOf s).drop p).take 1 = [62] := decb_no q
    rw [if_neg q']
    change Ev (fun k => (spec_l7At.f s (p : Int) ⟨[(47 : UInt8), 62].toArray⟩).bind _) _
    simp only [e2, Option.bind_some]
    refine ev_iteB (fun q2 => ?_) (fun q2 => ?_)
    · have q3 : ((bytesOf s).drop p).take 2 = [47, 62] := (decb_iff _).1 q2
      rw [if_pos q3]
      have hlt : p + 1 < s.size := by
        have := congrArg List.length q3
        rw [List.length_take, hl] at this
        simp only [List.length_cons, List.length_nil] at this
        omega
      rw [wrap_id (x := (p : Int) + 2) (by omega) (by omega), z]
      have e : (s.size : Int) - ((((bytesOf s).drop p).drop 2).length : Int) = (p : Int) + 2 := by rw [List.length_drop, hl]; omega
      unfold resM
      simp only [e]
      exact Ev.now _
    · have q3 : ¬ ((bytesOf s).drop p).take 2 = [47, 62] := decb_no q2
      rw [if_neg q3]
      exact Ev.now _
/-- behind the loop that looks for the closing quote -/
def markFin (k : Nat) (s : ByteArray) (q E : Int) (name : ByteArray) : Option (Int × ByteArray × ByteArray × Bool × ByteArray × Int) :=
  if 0 ≤ q then (if q ≤ E then (if E ≤ (s.size : Int) then ((spec_Unescape.f k (s.extract (q : Int).toNat (E : Int).toNat)).bind fun bt313 => (if bt313.2 = true then (if E = (s.size : Int) then (some (0, (⟨#[]⟩ : ByteArray), (⟨#[]⟩ : ByteArray), false, (⟨#[]⟩ : ByteArray), (-1))) else (if (bt313.1.size : Int) > 20 then (some (0, (⟨#[]⟩ : ByteArray), (⟨#[]⟩ : ByteArray), false, (⟨#[]⟩ : ByteArray), (-1))) else (spec_l7Mark.j1 k s (wrap64 (E + 1)) 1 name bt313.1 true (⟨#[]⟩ : ByteArray)))) else (some (0, (⟨#[]⟩ : ByteArray), (⟨#[]⟩ : ByteArray), false, (⟨#[]⟩ : ByteArray), (-1))))) else (none)) else (none)) else none
theorem l7Mark_l0 (s : ByteArray) (hs : s.size ≤ 1048576) (name : ByteArray) (q : Nat) : ∀ (n p : Nat) (v : Int × ByteArray × ByteArray × Bool × ByteArray × Int), s.size - p = n → p ≤ s.size → Ev (fun k => markFin k s (q : Int) ((p + (tkC 34 ((bytesOf s).drop p)).length : Nat) : Int) name) v → Ev (fun k => spec_l7Mark.l0 k s (p : Int) (q : Int) 1 name (⟨#[]⟩ : ByteArray) false (⟨#[]⟩ : ByteArray)) v
  | 0, p, v, hn, hp, h => by
    apply ev_succ
    simp only [spec_l7Mark.l0, if_neg (show ¬ (p : Int) < s.size by omega)]
    rw [List.drop_eq_nil_of_le (by rw [bytesOf_length]; omega)] at h
    exact h
  | n + 1, p, v, hn, hp, h => by
    have hl := bytesOf_length s
    cases hd : (bytesOf s).drop p with
    | nil => have := size_drop hd; omega
    | cons c r =>
      obtain ⟨hb, hi, hdr⟩ := bt_drop hd
      have hw : wrap64 ((p : Int) + 1) = ((p + 1 : Nat) : Int) := by rw [wrap_id (by omega) (by omega)]; omega
      apply ev_succ
      simp only [spec_l7Mark.l0, if_pos (show (p : Int) < s.size by omega), if_pos (show (0 : Int) ≤ (p : Int) by omega), hb]
      rw [hd] at h
      by_cases q1 : c = 34
      · simp only [if_pos q1]
        have e : tkC 34 (c :: r) = [] := by simp [tkC, q1]
        rw [e] at h
        exact h
      · simp only [if_neg q1, hw]
        have e : tkC 34 (c :: r) = c :: tkC 34 r := by simp [tkC, q1]
        refine l7Mark_l0 s hs name q n (p + 1) v (by omega) (by omega) ?_
        rw [e, List.length_cons] at h
        rw [hdr, show p + 1 + (tkC 34 r).length = p + ((tkC 34 r).length + 1) by omega]
        exact h
theorem tk_extract (c : Int) (s : ByteArray) (q : Nat) (hq : q ≤ s.size) : bytesOf (s.extract q (q + (tkC c ((bytesOf s).drop q)).length)) = tkC c ((bytesOf s).drop q) ∧ (bytesOf s).drop (q + (tkC c ((bytesOf s).drop q)).length) = drC c ((bytesOf s).drop q) ∧ q + (tkC c ((bytesOf s).drop q)).length + (drC c ((bytesOf s).drop q)).length = s.size := by
  have h := tk_dr c ((bytesOf s).drop q)
  have hl := drC_len c ((bytesOf s).drop q)
  rw [List.length_drop, bytesOf_length] at hl
  refine ⟨?_, ?_, by omega⟩
  · rw [bytesOf_extract, List.drop_take, show q + (tkC c ((bytesOf s).drop q)).length - q = (tkC c ((bytesOf s).drop q)).length by omega]
    have := @List.take_left _ (tkC c ((bytesOf s).drop q)) (drC c ((bytesOf s).drop q))
    rw [h] at this
    exact this
  · have := @List.drop_left _ (tkC c ((bytesOf s).drop q)) (drC c ((bytesOf s).drop q))
    rw [h, List.drop_drop] at this
    exact this
theorem markFin_ev (s : ByteArray) (hs : s.size ≤ 1048576) (name : List Int) (q : Nat) (hq : q ≤ s.size) : Ev (fun k => markFin k s (q : Int) ((q + (tkC 34 ((bytesOf s).drop q)).length : Nat) : Int) (strOfNums name)) (resM s (if drC 34 ((bytesOf s).drop q) = [] then none else
      match un (tkC 34 ((bytesOf s).drop q)) [] with
      | none => none
      | some ns => if 20 < ns.length then none else closeM name ns true (drC 34 ((bytesOf s).drop q)).tail)) := by
  obtain ⟨h1, h2, h3⟩ := tk_extract 34 s q hq
  generalize hE : q + (tkC 34 ((bytesOf s).drop q)).length = E at h1 h2 h3
  have hu := spec_Unescape_ev (s.extract q E) (by rw [ByteArray.size_extract]; omega)
  rw [h1] at hu
  unfold markFin
  simp only [if_pos (show (0 : Int) ≤ (q : Int) by omega), if_pos (show (q : Int) ≤ (E : Int) by omega), if_pos (show (E : Int) ≤ (s.size : Int) by omega), Int.toNat_natCast]
  refine Ev.bind hu ?_
  cases hun : un (tkC 34 ((bytesOf s).drop q)) [] with
  | none =>
    simp only [resU, Bool.false_eq_true, if_false, ite_self]
    exact Ev.now _
  | some ns =>
    simp only [resU, if_true]
    by_cases q1 : drC 34 ((bytesOf s).drop q) = []
    · rw [q1, List.length_nil] at h3
      simp only [if_pos (show (E : Int) = (s.size : Int) by omega), if_pos q1]
      exact Ev.now _
    · have q2 : 0 < (drC 34 ((bytesOf s).drop q)).length := by
        cases hd : drC 34 ((bytesOf s).drop q) with
        | nil => exact absurd hd q1
        | cons a u => simp
      simp only [if_neg (show ¬ (E : Int) = (s.size : Int) by omega), if_neg q1, strOfNums_len]
      by_cases q3 : 20 < ns.length
      · simp only [if_pos (show (ns.length : Int) > 20 by omega), if_pos q3]
        exact Ev.now _
      · have hw : wrap64 ((E : Int) + 1) = ((E + 1 : Nat) : Int) := by rw [wrap_id (by omega) (by omega)]; omega
        simp only [if_neg (show ¬ (ns.length : Int) > 20 by omega), if_neg q3, hw]
        have := l7Mark_j1 s hs name ns true (E + 1) (by omega)
        rw [show (bytesOf s).drop (E + 1) = (drC 34 ((bytesOf s).drop q)).tail by rw [← h2, List.tail_drop]] at this
        exact this
theorem strOfNums_ext {s : ByteArray} {i j : Nat} {l : List Int} (h : bytesOf (s.extract i j) = l) : s.extract i j = strOfNums l := by rw [← h, strOfNums_bytesOf]
theorem nm_ext (s : ByteArray) (p : Nat) (hp : p ≤ s.size) : bytesOf (s.extract p (p + (nmL ((bytesOf s).drop p)).length)) = nmL ((bytesOf s).drop p) ∧ (bytesOf s).drop (p + (nmL ((bytesOf s).drop p)).length) = nmR ((bytesOf s).drop p) ∧ p + (nmL ((bytesOf s).drop p)).length ≤ s.size := by
  have h := nm_app ((bytesOf s).drop p)
  have hl := nm_len ((bytesOf s).drop p)
  rw [List.length_drop, bytesOf_length] at hl
  refine ⟨?_, ?_, by omega⟩
  · rw [bytesOf_extract, List.drop_take, show p + (nmL ((bytesOf s).drop p)).length - p = (nmL ((bytesOf s).drop p)).length by omega]
    have := @List.take_left _ (nmL ((bytesOf s).drop p)) (nmR ((bytesOf s).drop p))
    rw [h] at this
    exact this
  · have := nm_drop ((bytesOf s).drop p)
    rw [List.drop_drop] at this
    exact this
theorem spec_l7Mark_ev (s : ByteArray) (hs : s.size ≤ 1048576) (p : Nat) (r : List Int) (hd : (bytesOf s).drop p = 60 :: r) : Ev (fun k => spec_l7Mark.f k s (p : Int)) (resM s (markM r)) := by
  obtain ⟨_, hi, hdr⟩ := bt_drop hd
  have hlr : r.length + (p + 1) = s.size := by rw [← hdr, List.length_drop, bytesOf_length]; omega
  have e0 := l7At_ev s p [60, 47] (by omega) hs (by decide)
  unfold spec_l7Mark.f
  change Ev (fun k => (spec_l7At.f s (p : Int) ⟨[(60 : UInt8), 47].toArray⟩).bind _) _
  simp only [e0, Option.bind_some]
  have h0 : (((bytesOf s).drop p).take [(60 : UInt8), 47].length = [(60 : UInt8), 47].map fun b => (b.toNat : Int)) ↔ r.take 1 = [47] := by
    rw [hd]
    show ((60 : Int) :: r.take 1 = [60, 47]) ↔ _
    simp
  unfold markM
  refine ev_iteB (fun q => ?_) (fun q => ?_)
  · have q' := h0.1 ((decb_iff _).1 q)
    rw [if_pos q']
    have hr1 : 1 ≤ r.length := by cases r with
      | nil => cases q'
      | cons a u => simp
    have hd2 : (bytesOf s).drop (p + 2) = r.drop 1 := by rw [show p + 2 = p + 1 + 1 by omega, ← List.drop_drop, hdr]
    have hw : wrap64 ((p : Int) + 2) = ((p + 2 : Nat) : Int) := by rw [wrap_id (by omega) (by omega)]; omega
    obtain ⟨h1, h2, h3⟩ := nm_ext s (p + 2) (by omega)
    have hn := spec_l7Name_ev s hs (p + 2) (by omega)
    rw [hd2] at h1 h2 h3 hn
    generalize hE : p + 2 + (nmL (r.drop 1)).length = E at h1 h2 h3 hn
    simp only [hw]
    refine Ev.bind hn ?_
    have e1 := l7At_ev s E [62] (by omega) hs (by decide)
    change Ev (fun k => (spec_l7At.f s (E : Int) ⟨[(62 : UInt8)].toArray⟩).bind _) _
    simp only [e1, Option.bind_some]
    rw [h2]
    refine ev_iteB (fun q1 => ?_) (fun q1 => ?_)
    · have q2 : (nmR (r.drop 1)).take 1 = [62] := (decb_iff _).1 q1
      have hlt : E < s.size := by
        rcases Nat.lt_or_ge E s.size with h | h
        · exact h
        · rw [← h2, List.drop_eq_nil_of_le (by rw [bytesOf_length]; exact h)] at q2; cases q2
      simp only [if_pos (show (0 : Int) ≤ ((p + 2 : Nat) : Int) by omega), if_pos (show ((p + 2 : Nat) : Int) ≤ (E : Int) by omega), if_pos (show (E : Int) ≤ (s.size : Int) by omega), Int.toNat_natCast]
      refine Ev.bind (spec_SmallName_ev _ (by rw [ByteArray.size_extract]; omega)) ?_
      rw [smallName_N, h1]
      refine ev_iteB (fun q3 => ?_) (fun q3 => ?_)
      · rw [if_pos ⟨q2, q3⟩, strOfNums_ext h1, wrap_id (x := (E : Int) + 1) (by omega) (by omega)]
        have e : (s.size : Int) - (((nmR (r.drop 1)).drop 1).length : Int) = (E : Int) + 1 := by rw [← h2, List.drop_drop, List.length_drop, bytesOf_length]; omega
        unfold resM
        simp only [e]
        exact Ev.now _
      · rw [if_neg (fun h => by rw [h.2] at q3; cases q3)]
        exact Ev.now _
    · have q2 : ¬ (nmR (r.drop 1)).take 1 = [62] := decb_no q1
      rw [if_neg (fun h => q2 h.1)]
      exact Ev.now _
  · have q' : ¬ r.take 1 = [47] := fun h => by rw [decb_true (h0.2 h)] at q; cases q
    rw [if_neg q']
    have hw : wrap64 ((p : Int) + 1) = ((p + 1 : Nat) : Int) := by rw [wrap_id (by omega) (by omega)]; omega
    obtain ⟨h1, h2, h3⟩ := nm_ext s (p + 1) (by omega)
    have hn := spec_l7Name_ev s hs (p + 1) (by omega)
    rw [hdr] at h1 h2 h3 hn
    generalize hE : p + 1 + (nmL r).length = E at h1 h2 h3 hn
    simp only [hw]
    refine Ev.bind hn ?_
    simp only [if_pos (show (0 : Int) ≤ ((p + 1 : Nat) : Int) by omega), if_pos (show ((p + 1 : Nat) : Int) ≤ (E : Int) by omega), if_pos (show (E : Int) ≤ (s.size : Int) by omega), Int.toNat_natCast]
    refine Ev.bind (spec_SmallName_ev _ (by rw [ByteArray.size_extract]; omega)) ?_
    rw [smallName_N, h1]
    refine ev_iteB (fun q3 => ?_) (fun q3 => ?_)
    · rw [if_pos q3, strOfNums_ext h1]
      have e1 := l7At_ev s E [32, 120, 109, 108, 110, 115, 61, 34] (by omega) hs (by decide)
      change Ev (fun k => (spec_l7At.f s (E : Int) ⟨[(32 : UInt8), 120, 109, 108, 110, 115, 61, 34].toArray⟩).bind _) _
      simp only [e1, Option.bind_some]
      rw [h2]
      have hx : (List.take [(32 : UInt8), 120, 109, 108, 110, 115, 61, 34].length (nmR r) = List.map (fun b => (b.toNat : Int)) [(32 : UInt8), 120, 109, 108, 110, 115, 61, 34]) ↔ (nmR r).take 8 = xmL := Iff.rfl
      refine ev_iteB (fun q4 => ?_) (fun q4 => ?_)
      · have q5 := hx.1 ((decb_iff _).1 q4)
        have ha : afterX (nmR r) = some ((nmR r).drop 8) := by unfold afterX; rw [if_pos q5]
        have h8 : E + 8 ≤ s.size := by
          have := congrArg List.length q5
          rw [List.length_take, ← h2, List.length_drop, bytesOf_length] at this
          simp only [xmL, List.length_cons, List.length_nil] at this
          omega
        have hd8 : (bytesOf s).drop (E + 8) = (nmR r).drop 8 := by rw [← List.drop_drop, h2]
        have hw8 : wrap64 ((E : Int) + 8) = ((E + 8 : Nat) : Int) := by rw [wrap_id (by omega) (by omega)]; omega
        have hf := markFin_ev s hs (nmL r) (E + 8) h8
        rw [ha, hw8]
        simp only [hd8] at hf ⊢
        refine l7Mark_l0 s hs _ (E + 8) _ (E + 8) _ rfl h8 ?_
        rw [hd8]
        exact hf
      · have ha : afterX (nmR r) = none := by unfold afterX; rw [if_neg (fun h => by rw [decb_true (hx.2 h)] at q4; cases q4)]
        rw [ha]
        have := l7Mark_j1 s hs (nmL r) [] false E (by omega)
        rw [h2] at this
        exact this
    · rw [if_neg (fun h => by rw [h] at q3; cases q3)]
      exact Ev.now _

def toS28 (p : Pc) : S28 := ⟨p.k, strOfNums p.name, strOfNums p.ns, p.has, strOfNums p.s⟩
/-- what the pieces' reader answers -/
def resP : Option (List Pc) → List S28 × Bool
  | none => ([], false)
  | some l => (l.map toS28, true)
theorem closeM_suf {name ns : List Int} {has : Bool} {r : List Int} {x : Pc × List Int} (h : closeM name ns has r = some x) : x.2 <:+ r := by
  unfold closeM at h
  split at h
  · injection h with h; subst h; exact List.drop_suffix 1 r
  · split at h
    · injection h with h; subst h; exact List.drop_suffix 2 r
    · cases h
theorem nmR_suf (r : List Int) : nmR r <:+ r := List.dropWhile_suffix _
theorem drC_suf (c : Int) (r : List Int) : drC c r <:+ r := List.dropWhile_suffix _
theorem markM_suf {r : List Int} {x : Pc × List Int} (h : markM r = some x) : x.2 <:+ r := by
  unfold markM at h
  split at h
  · split at h
    · injection h with h; subst h
      exact ((List.drop_suffix 1 _).trans (nmR_suf _)).trans (List.drop_suffix 1 r)
    · cases h
  · split at h
    · split at h
      · exact (closeM_suf h).trans (nmR_suf r)
      · rename_i t ht
        have htr : t <:+ r := by
          unfold afterX at ht
          split at ht
          · injection ht with ht; subst ht; exact (List.drop_suffix 8 _).trans (nmR_suf r)
          · cases ht
        split at h
        · cases h
        · split at h
          · cases h
          · split at h
            · cases h
            · exact (((closeM_suf h).trans (List.tail_suffix _)).trans (drC_suf 34 t)).trans htr
    · cases h
theorem suf_drop {u l : List Int} (h : u <:+ l) : l.drop (l.length - u.length) = u ∧ u.length ≤ l.length := ⟨(List.suffix_iff_eq_drop.1 h).symm, h.length_le⟩
/-- behind the loop that looks for the next mark -/
def textFin (k : Nat) (s : ByteArray) (x4 : List S28) (p E : Int) : Option (List S28 × Bool) :=
  if 0 ≤ p then (if p ≤ E then (if E ≤ (s.size : Int) then ((spec_Unescape.f k (s.extract (p : Int).toNat (E : Int).toNat)).bind fun bt340 => (if bt340.2 = true then (if x4.length < 2199023255552 then (spec_Pieces.l0 k s (x4 ++ [(⟨4, (⟨#[]⟩ : ByteArray), (⟨#[]⟩ : ByteArray), false, bt340.1⟩ : S28)]) E) else (none)) else (some ((([] : List (S28))), false)))) else (none)) else (none)) else (none)
theorem spec_Pieces_l1 (s : ByteArray) (hs : s.size ≤ 1048576) (x4 : List S28) (q : Nat) : ∀ (n p : Nat) (v : List S28 × Bool), s.size - p = n → p ≤ s.size → Ev (fun k => textFin k s x4 (q : Int) ((p + (tkC 60 ((bytesOf s).drop p)).length : Nat) : Int)) v → Ev (fun k => spec_Pieces.l1 k s x4 (q : Int) (p : Int)) v
  | 0, p, v, hn, hp, h => by
    apply ev_succ
    simp only [spec_Pieces.l1, if_neg (show ¬ (p : Int) < s.size by omega)]
    rw [List.drop_eq_nil_of_le (by rw [bytesOf_length]; omega)] at h
    exact h
  | n + 1, p, v, hn, hp, h => by
    have hl := bytesOf_length s
    cases hd : (bytesOf s).drop p with
    | nil => have := size_drop hd; omega
    | cons c r =>
      obtain ⟨hb, hi, hdr⟩ := bt_drop hd
      have hw : wrap64 ((p : Int) + 1) = ((p + 1 : Nat) : Int) := by rw [wrap_id (by omega) (by omega)]; omega
      apply ev_succ
      simp only [spec_Pieces.l1, if_pos (show (p : Int) < s.size by omega), if_pos (show (0 : Int) ≤ (p : Int) by omega), hb]
      rw [hd] at h
      by_cases q1 : c = 60
      · simp only [if_pos q1]
        have e : tkC 60 (c :: r) = [] := by simp [tkC, q1]
        rw [e] at h
        exact h
      · simp only [if_neg q1, hw]
        have e : tkC 60 (c :: r) = c :: tkC 60 r := by simp [tkC, q1]
        refine spec_Pieces_l1 s hs x4 q n (p + 1) v (by omega) (by omega) ?_
        rw [e, List.length_cons] at h
        rw [hdr, show p + 1 + (tkC 60 r).length = p + ((tkC 60 r).length + 1) by omega]
        exact h
theorem map_snoc28 (out : List Pc) (p : Pc) : out.map toS28 ++ [toS28 p] = (out ++ [p]).map toS28 := by rw [List.map_append]; rfl
theorem spec_Pieces_l0 (s : ByteArray) (hs : s.size ≤ 1048576) (hpl : plainB (bytesOf s) = true) : ∀ (n p : Nat) (out : List Pc), s.size - p ≤ n → p ≤ s.size → out.length ≤ 60 → Ev (fun k => spec_Pieces.l0 k s (out.map toS28) (p : Int)) (resP (pcs n ((bytesOf s).drop p) out)) := by
  have hP := spec_Plain_ev s (by omega)
  rw [hpl] at hP
  have stop : ∀ (p : Nat) (out : List Pc), s.size ≤ p → Ev (fun k => spec_Pieces.l0 k s (out.map toS28) (p : Int)) (out.map toS28, true) := by
    intro p out hp
    apply ev_succ
    simp only [spec_Pieces.l0, if_neg (show ¬ (p : Int) < s.size by omega)]
    apply ev_succ
    simp only [spec_Pieces.j1, Bool.false_eq_true, if_false]
    exact Ev.bind hP (Ev.now _)
  intro n
  induction n with
  | zero =>
    intro p out hn hp ho
    exact stop p out (by omega)
  | succ n ih =>
    intro p out hn hp ho
    cases hd : (bytesOf s).drop p with
    | nil =>
      have e : pcs (n + 1) [] out = some out := by simp [pcs]
      rw [e]
      exact stop p out (size_drop hd)
    | cons c r =>
      obtain ⟨hb, hi, hdr⟩ := bt_drop hd
      apply ev_succ
      simp only [spec_Pieces.l0, if_pos (show (p : Int) < s.size by omega)]
      refine Ev.bind hP ?_
      apply ev_succ
      simp only [spec_Pieces.j1, if_true, List.length_map]
      rw [pcs]
      by_cases q0 : out.length = 60
      · simp only [if_pos (show (out.length : Int) = 60 by omega), if_pos q0]
        exact Ev.now _
      simp only [if_neg (show ¬ (out.length : Int) = 60 by omega), if_neg q0, if_pos (show (0 : Int) ≤ (p : Int) by omega), if_pos (show (p : Int) < (s.size : Int) by omega), hb]
      by_cases q1 : c = 60
      · subst q1
        simp only [if_true]
        refine Ev.bind (spec_l7Mark_ev s hs p r hd) ?_
        cases hm : markM r with
        | none =>
          simp only [resM, if_pos (show (-1 : Int) < 0 by omega)]
          exact Ev.now _
        | some x =>
          obtain ⟨pc, u⟩ := x
          have hu := markM_suf hm
          simp only at hu
          have hu2 : u <:+ bytesOf s := by
            refine hu.trans ?_
            rw [← hdr]; exact List.drop_suffix _ _
          obtain ⟨e1, e2⟩ := suf_drop hu2
          rw [bytesOf_length] at e1 e2
          have hul := hu.length_le
          have hrl : r.length + (p + 1) = s.size := by rw [← hdr, List.length_drop, bytesOf_length]; omega
          have ei : (s.size : Int) - (u.length : Int) = ((s.size - u.length : Nat) : Int) := by omega
          simp only [resM, ei, if_neg (show ¬ ((s.size - u.length : Nat) : Int) < 0 by omega), if_pos (show out.length < 2199023255552 by omega)]
          have := ih (s.size - u.length) (out ++ [pc]) (by omega) (by omega) (by rw [List.length_append]; simp; omega)
          rw [e1, ← map_snoc28] at this
          exact this
      · simp only [if_neg q1]
        refine spec_Pieces_l1 s hs _ p _ p _ rfl hp ?_
        obtain ⟨h1, h2, h3⟩ := tk_extract 60 s p hp
        have ht : 0 < (tkC 60 ((bytesOf s).drop p)).length := by rw [hd]; simp [tkC, q1]
        rw [← hd]
        generalize hE : p + (tkC 60 ((bytesOf s).drop p)).length = E at h1 h2 h3
        have hu := spec_Unescape_ev (s.extract p E) (by rw [ByteArray.size_extract]; omega)
        rw [h1] at hu
        unfold textFin
        simp only [if_pos (show (0 : Int) ≤ (p : Int) by omega), if_pos (show (p : Int) ≤ (E : Int) by omega), if_pos (show (E : Int) ≤ (s.size : Int) by omega), Int.toNat_natCast]
        refine Ev.bind hu ?_
        cases hun : un (tkC 60 ((bytesOf s).drop p)) [] with
        | none =>
          simp only [resU, Bool.false_eq_true, if_false]
          exact Ev.now _
        | some t =>
          simp only [resU, if_true, List.length_map, if_pos (show out.length < 2199023255552 by omega)]
          have := ih E (out ++ [⟨4, [], [], false, t⟩]) (by omega) (by omega) (by rw [List.length_append]; simp; omega)
          rw [h2, ← map_snoc28] at this
          exact this
theorem spec_Pieces_ev (s : ByteArray) (hs : s.size ≤ 1048576) : Ev (fun k => spec_Pieces.f k s) (if plainB (bytesOf s) = true then resP (pcs s.size (bytesOf s) []) else ([], false)) := by
  unfold spec_Pieces.f
  by_cases q : plainB (bytesOf s) = true
  · rw [if_pos q]
    have := spec_Pieces_l0 s hs q s.size 0 [] (by omega) (by omega) (by simp)
    rw [List.drop_zero] at this
    exact this
  · rw [if_neg q]
    have hP := spec_Plain_ev s (by omega)
    simp only [Bool.not_eq_true] at q
    rw [q] at hP
    have h0 : 0 < s.size := by
      rcases Nat.eq_zero_or_pos s.size with h | h
      · have : bytesOf s = [] := by
          have := bytesOf_length s
          rw [h] at this
          exact List.eq_nil_of_length_eq_zero this
        rw [this] at q; cases q
      · exact h
    apply ev_succ
    simp only [spec_Pieces.l0, if_pos (show (0 : Int) < s.size by omega)]
    refine Ev.bind hP ?_
    apply ev_succ
    simp only [spec_Pieces.j1, Bool.false_eq_true, if_false]
    exact Ev.bind hP (Ev.now _)

def MkP : Option (Pc × List Int) → Int × ByteArray × ByteArray × Bool × ByteArray × ByteArray × Bool → Prop
  | none, v => v.2.2.2.2.2.2 = false
  | some (p, u), v => ∃ rest, v = (p.k, strOfNums p.name, strOfNums p.ns, p.has, strOfNums p.s, rest, true) ∧ bytesOf rest = u
theorem size_le_of_bytes {a b : ByteArray} (h : (bytesOf a).length ≤ (bytesOf b).length) : a.size ≤ b.size := by rw [bytesOf_length, bytesOf_length] at h; exact h
theorem impl_markAt_j0 (nm : List Int) (x11 x12 name : ByteArray) (ns : ByteArray) (has : Bool) (h11 : x11.size ≤ 1048576) (hn : smallName x11 = smallN nm) (hname : name = strOfNums nm) (nl : List Int) (hns : ns = strOfNums nl) : ∃ v, Ev (fun k => impl_markAt.j0 k x11 x12 1 name ns has (⟨#[]⟩ : ByteArray)) v ∧ MkP (if smallN nm = true then closeM nm nl has (bytesOf x12) else none) v := by
  obtain ⟨a, ha, ha1, ha2⟩ := cutPrefix_eq x12 [47, 62]
  obtain ⟨b, hb, hb1, hb2⟩ := cutPrefix_eq x12 [62]
  have hs := impl_SmallName_ev x11 (by omega)
  rw [hn] at hs
  subst hname; subst hns
  by_cases q : (bytesOf x12).take 2 = [47, 62]
  · have q1 : ¬ (bytesOf x12).take 1 = [62] := by
      intro h
      have := congrArg (fun l => l[0]?) q
      have h' := congrArg (fun l => l[0]?) h
      simp only [List.getElem?_take] at this h'
      rw [if_pos (by omega)] at this h'
      rw [this] at h'
      simp at h'
    refine ⟨(3, strOfNums nm, strOfNums nl, has, (⟨#[]⟩ : ByteArray), a, smallN nm), ?_, ?_⟩
    · apply ev_succ
      simp only [impl_markAt.j0]
      change Ev (fun k => (strings_CutPrefix.f x12 ⟨[(47 : UInt8), 62].toArray⟩).bind _) _
      rw [decb_true (show (bytesOf x12).take [(47 : UInt8), 62].length = [(47 : UInt8), 62].map (fun b => (b.toNat : Int)) from q)] at ha
      simp only [ha, Option.bind_some, if_true]
      exact Ev.bind hs (Ev.now _)
    · cases hsm : smallN nm with
      | false => rw [if_neg (by simp)]; rfl
      | true =>
        rw [if_pos rfl, closeM, if_neg q1, if_pos q]
        exact ⟨a, rfl, ha1 q⟩
  · rw [decb_false (show ¬ (bytesOf x12).take [(47 : UInt8), 62].length = [(47 : UInt8), 62].map (fun b => (b.toNat : Int)) from q)] at ha
    by_cases q1 : (bytesOf x12).take 1 = [62]
    · rw [decb_true (show (bytesOf x12).take [(62 : UInt8)].length = [(62 : UInt8)].map (fun b => (b.toNat : Int)) from q1)] at hb
      refine ⟨(1, strOfNums nm, strOfNums nl, has, (⟨#[]⟩ : ByteArray), b, smallN nm), ?_, ?_⟩
      · apply ev_succ
        simp only [impl_markAt.j0]
        change Ev (fun k => (strings_CutPrefix.f x12 ⟨[(47 : UInt8), 62].toArray⟩).bind _) _
        simp only [ha, Option.bind_some, Bool.false_eq_true, if_false]
        change Ev (fun k => (strings_CutPrefix.f x12 ⟨[(62 : UInt8)].toArray⟩).bind _) _
        simp only [hb, Option.bind_some, if_true]
        exact Ev.bind hs (Ev.now _)
      · cases hsm : smallN nm with
        | false => rw [if_neg (by simp)]; rfl
        | true =>
          rw [if_pos rfl, closeM, if_pos q1]
          exact ⟨b, rfl, hb1 q1⟩
    · rw [decb_false (show ¬ (bytesOf x12).take [(62 : UInt8)].length = [(62 : UInt8)].map (fun b => (b.toNat : Int)) from q1)] at hb
      refine ⟨(1, strOfNums nm, strOfNums nl, has, (⟨#[]⟩ : ByteArray), b, false), ?_, ?_⟩
      · apply ev_succ
        simp only [impl_markAt.j0]
        change Ev (fun k => (strings_CutPrefix.f x12 ⟨[(47 : UInt8), 62].toArray⟩).bind _) _
        simp only [ha, Option.bind_some, Bool.false_eq_true, if_false]
        change Ev (fun k => (strings_CutPrefix.f x12 ⟨[(62 : UInt8)].toArray⟩).bind _) _
        simp only [hb, Option.bind_some, Bool.false_eq_true, if_false]
        exact Ev.now _
      · have e : (if smallN nm = true then closeM nm nl has (bytesOf x12) else none) = none := by
          unfold closeM
          rw [if_neg q1, if_neg q, ite_self]
        rw [e]
        rfl
theorem mkP_none {x : Option (Pc × List Int)} (h : x = none) (v : Int × ByteArray × ByteArray × Bool × ByteArray × ByteArray × Bool) (hv : v.2.2.2.2.2.2 = false) : MkP x v := by subst h; exact hv
theorem impl_markAt_ev (s : ByteArray) (hs : s.size ≤ 1048576) (r : List Int) (hb : bytesOf s = 60 :: r) : ∃ v, Ev (fun k => impl_markAt.f k s) v ∧ MkP (markM r) v := by
  have hlen : r.length + 1 = s.size := by rw [← bytesOf_length, hb, List.length_cons]
  obtain ⟨a, ha, ha1, ha2⟩ := cutPrefix_eq s [60, 47]
  have h0 : ((bytesOf s).take [(60 : UInt8), 47].length = [(60 : UInt8), 47].map fun b => (b.toNat : Int)) ↔ r.take 1 = [47] := by
    rw [hb]
    show ((60 : Int) :: r.take 1 = [60, 47]) ↔ _
    simp
  unfold impl_markAt.f
  change ∃ v, Ev (fun k => (strings_CutPrefix.f s ⟨[(60 : UInt8), 47].toArray⟩).bind _) v ∧ _
  by_cases q : r.take 1 = [47]
  · have hab : bytesOf a = r.drop 1 := by rw [ha1 (h0.2 q), hb]; rfl
    have hal : a.size ≤ 1048576 := by
      rw [size_len, hab, List.length_drop]; omega
    rw [decb_true (h0.2 q)] at ha
    simp only [ha, Option.bind_some, if_true]
    obtain ⟨x, y, hn, hx, hy⟩ := impl_nameAt_ev a hal
    rw [hab] at hx hy
    have hxl : x.size ≤ 1048576 := by
      have := nm_len (r.drop 1)
      rw [List.length_drop] at this
      rw [size_len, hx]; omega
    obtain ⟨b, hb', hb1, hb2⟩ := cutPrefix_eq y [62]
    rw [hy] at hb' hb1
    have hsm := impl_SmallName_ev x (by omega)
    rw [smallName_N, hx] at hsm
    have hxs : x = strOfNums (nmL (r.drop 1)) := by rw [← hx, strOfNums_bytesOf]
    by_cases q1 : (nmR (r.drop 1)).take 1 = [62]
    · rw [decb_true (show List.take [(62 : UInt8)].length (nmR (r.drop 1)) = List.map (fun b => (b.toNat : Int)) [(62 : UInt8)] from q1)] at hb'
      refine ⟨(2, x, (⟨#[]⟩ : ByteArray), false, (⟨#[]⟩ : ByteArray), b, smallN (nmL (r.drop 1))), Ev.bind hn ?_, ?_⟩
      · change Ev (fun k => (strings_CutPrefix.f y ⟨[(62 : UInt8)].toArray⟩).bind _) _
        simp only [hb', Option.bind_some, if_true]
        exact Ev.bind hsm (Ev.now _)
      · unfold markM
        rw [if_pos q]
        cases hs2 : smallN (nmL (r.drop 1)) with
        | false => exact mkP_none (if_neg (by simp)) _ rfl
        | true =>
          rw [if_pos ⟨q1, rfl⟩]
          exact ⟨b, by rw [hxs]; rfl, hb1 q1⟩
    · rw [decb_false (show ¬ List.take [(62 : UInt8)].length (nmR (r.drop 1)) = List.map (fun b => (b.toNat : Int)) [(62 : UInt8)] from q1)] at hb'
      refine ⟨(2, x, (⟨#[]⟩ : ByteArray), false, (⟨#[]⟩ : ByteArray), b, false), Ev.bind hn ?_, ?_⟩
      · change Ev (fun k => (strings_CutPrefix.f y ⟨[(62 : UInt8)].toArray⟩).bind _) _
        simp only [hb', Option.bind_some, Bool.false_eq_true, if_false]
        exact Ev.now _
      · unfold markM
        rw [if_pos q]
        exact mkP_none (if_neg (fun h => q1 h.1)) _ rfl
  · rw [decb_false (fun h => q (h0.1 h))] at ha
    simp only [ha, Option.bind_some, Bool.false_eq_true, if_false, if_pos (show (1 : Int) ≤ (s.size : Int) by omega)]
    have hr : bytesOf (s.extract 1 s.size) = r := by
      rw [bytesOf_extract, List.take_of_length_le (by rw [bytesOf_length]; exact Nat.le_refl _), hb]; rfl
    obtain ⟨x, y, hn, hx, hy⟩ := impl_nameAt_ev (s.extract 1 s.size) (by rw [ByteArray.size_extract]; omega)
    rw [hr] at hx hy
    have hnl := nm_len r
    have hxl : x.size ≤ 1048576 := by rw [size_len, hx]; omega
    have hxs : x = strOfNums (nmL r) := by rw [← hx, strOfNums_bytesOf]
    have hsn : smallName x = smallN (nmL r) := by rw [smallName_N, hx]
    obtain ⟨c, hc, hc1, hc2⟩ := cutPrefix_eq y [32, 120, 109, 108, 110, 115, 61, 34]
    rw [hy] at hc hc1
    by_cases q1 : (nmR r).take 8 = xmL
    · rw [decb_true (show List.take [(32 : UInt8), 120, 109, 108, 110, 115, 61, 34].length (nmR r) = List.map (fun b => (b.toNat : Int)) [(32 : UInt8), 120, 109, 108, 110, 115, 61, 34] from q1)] at hc
      have hcb : bytesOf c = (nmR r).drop 8 := hc1 q1
      have hcl : c.size ≤ 1048576 := by rw [size_len, hcb, List.length_drop]; omega
      have hm : markM r = if smallN (nmL r) = true then (if drC 34 ((nmR r).drop 8) = [] then none else
          match un (tkC 34 ((nmR r).drop 8)) [] with
          | none => none
          | some ns => if 20 < ns.length then none else closeM (nmL r) ns true (drC 34 ((nmR r).drop 8)).tail) else none := by
        unfold markM afterX
        rw [if_neg q, if_pos q1]
      obtain ⟨u, w, hcut, hu, hw⟩ := cut_one c 34 (by omega)
      rw [show (((34 : UInt8).toNat : Nat) : Int) = 34 from rfl, hcb] at hcut hu hw
      have hul : u.size ≤ 1048576 := by
        have := drC_len 34 ((nmR r).drop 8)
        rw [List.length_drop] at this
        rw [size_len, hu]; omega
      have hun := impl_Unescape_ev u hul
      rw [hu] at hun
      -- what stands behind
      have fin : ∀ v : Int × ByteArray × ByteArray × Bool × ByteArray × ByteArray × Bool, Ev (fun k => (if (decide (drC 34 ((nmR r).drop 8) ≠ [])) = true then (if (resU (un (tkC 34 ((nmR r).drop 8)) [])).2 = true then (if ((resU (un (tkC 34 ((nmR r).drop 8)) [])).1.size : Int) > 20 then (some (0, (⟨#[]⟩ : ByteArray), (⟨#[]⟩ : ByteArray), false, (⟨#[]⟩ : ByteArray), (⟨#[]⟩ : ByteArray), false)) else (impl_markAt.j0 k x w 1 x (resU (un (tkC 34 ((nmR r).drop 8)) [])).1 true (⟨#[]⟩ : ByteArray))) else (some (0, (⟨#[]⟩ : ByteArray), (⟨#[]⟩ : ByteArray), false, (⟨#[]⟩ : ByteArray), (⟨#[]⟩ : ByteArray), false))) else (some (0, (⟨#[]⟩ : ByteArray), (⟨#[]⟩ : ByteArray), false, (⟨#[]⟩ : ByteArray), (⟨#[]⟩ : ByteArray), false)))) v → Ev (fun k => (impl_nameAt.f k (s.extract 1 s.size)).bind fun bt213 => ((strings_CutPrefix.f bt213.2 (⟨#[32, 120, 109, 108, 110, 115, 61, 34]⟩ : ByteArray)).bind fun bt215 => (if bt215.2 = true then ((strings_Cut.f bt215.1 (⟨#[34]⟩ : ByteArray)).bind fun bt217 => ((impl_Unescape.f k bt217.1).bind fun bt220 => (if bt217.2.2 = true then (if bt220.2 = true then (if (bt220.1.size : Int) > 20 then (some (0, (⟨#[]⟩ : ByteArray), (⟨#[]⟩ : ByteArray), false, (⟨#[]⟩ : ByteArray), (⟨#[]⟩ : ByteArray), false)) else (impl_markAt.j0 k bt213.1 bt217.2.1 1 bt213.1 bt220.1 true (⟨#[]⟩ : ByteArray))) else (some (0, (⟨#[]⟩ : ByteArray), (⟨#[]⟩ : ByteArray), false, (⟨#[]⟩ : ByteArray), (⟨#[]⟩ : ByteArray), false))) else (some (0, (⟨#[]⟩ : ByteArray), (⟨#[]⟩ : ByteArray), false, (⟨#[]⟩ : ByteArray), (⟨#[]⟩ : ByteArray), false))))) else (impl_markAt.j0 k bt213.1 bt213.2 1 bt213.1 (⟨#[]⟩ : ByteArray) false (⟨#[]⟩ : ByteArray))))) v := by
        intro v hv
        refine Ev.bind hn ?_
        change Ev (fun k => (strings_CutPrefix.f y ⟨[(32 : UInt8), 120, 109, 108, 110, 115, 61, 34].toArray⟩).bind _) _
        simp only [hc, Option.bind_some, if_true, hcut]
        exact Ev.bind hun hv
      cases hu2 : un (tkC 34 ((nmR r).drop 8)) [] with
      | none =>
        rw [hu2] at fin hm
        refine ⟨_, fin _ ?_, mkP_none (by rw [hm]; simp only [ite_self]) (0, (⟨#[]⟩ : ByteArray), (⟨#[]⟩ : ByteArray), false, (⟨#[]⟩ : ByteArray), (⟨#[]⟩ : ByteArray), false) rfl⟩
        simp only [resU, Bool.false_eq_true, if_false, ite_self]
        exact Ev.now _
      | some ns =>
        rw [hu2] at fin hm
        simp only at hm
        by_cases q2 : drC 34 ((nmR r).drop 8) = []
        · refine ⟨_, fin _ ?_, mkP_none (by rw [hm, if_pos q2, ite_self]) (0, (⟨#[]⟩ : ByteArray), (⟨#[]⟩ : ByteArray), false, (⟨#[]⟩ : ByteArray), (⟨#[]⟩ : ByteArray), false) rfl⟩
          rw [q2]
          exact Ev.now _
        · rw [if_neg q2] at hm
          by_cases q3 : 20 < ns.length
          · refine ⟨_, fin _ ?_, mkP_none (by rw [hm, if_pos q3, ite_self]) (0, (⟨#[]⟩ : ByteArray), (⟨#[]⟩ : ByteArray), false, (⟨#[]⟩ : ByteArray), (⟨#[]⟩ : ByteArray), false) rfl⟩
            simp only [resU, if_true, strOfNums_len, if_pos (show (ns.length : Int) > 20 by omega), ite_self]
            exact Ev.now _
          · rw [if_neg q3] at hm
            obtain ⟨v, hv, hP⟩ := impl_markAt_j0 (nmL r) x w x (strOfNums ns) true hxl hsn hxs ns rfl
            refine ⟨v, fin v ?_, by rw [hm, ← hw]; exact hP⟩
            simp only [resU, if_true, strOfNums_len, if_neg (show ¬ (ns.length : Int) > 20 by omega), decide_eq_true q2]
            exact hv
    · rw [decb_false (show ¬ List.take [(32 : UInt8), 120, 109, 108, 110, 115, 61, 34].length (nmR r) = List.map (fun b => (b.toNat : Int)) [(32 : UInt8), 120, 109, 108, 110, 115, 61, 34] from q1)] at hc
      have hm : markM r = if smallN (nmL r) = true then closeM (nmL r) [] false (nmR r) else none := by
        unfold markM afterX
        rw [if_neg q, if_neg q1]
      obtain ⟨v, hv, hP⟩ := impl_markAt_j0 (nmL r) x y x (⟨#[]⟩ : ByteArray) false hxl hsn hxs [] rfl
      rw [hy] at hP
      refine ⟨v, Ev.bind hn ?_, by rw [hm]; exact hP⟩
      change Ev (fun k => (strings_CutPrefix.f y ⟨[(32 : UInt8), 120, 109, 108, 110, 115, 61, 34].toArray⟩).bind _) _
      simp only [hc, Option.bind_some, Bool.false_eq_true, if_false]
      exact hv

theorem indexByte_tk (c : UInt8) : ∀ l : List UInt8, Lib.indexByte l c = if (l.dropWhile fun x => decide (x ≠ c)) = [] then -1 else ((l.takeWhile fun x => decide (x ≠ c)).length : Int)
  | [] => rfl
  | b :: l => by
    have ih := indexByte_tk c l
    rw [Lib.indexByte]
    by_cases q : b = c
    · subst q
      simp
    · have q2 : (b == c) = false := by simpa using q
      rw [q2, if_neg (by simp), ih, List.dropWhile_cons, List.takeWhile_cons]
      simp only [ne_eq, q, not_false_iff, decide_true, if_true]
      by_cases q3 : (l.dropWhile fun x => decide (¬ x = c)) = []
      · simp only [ne_eq, q3, if_true]; rfl
      · simp only [ne_eq, if_neg q3]
        rw [if_neg (by simp only [beq_iff_eq]; omega)]
        simp
theorem indexByte60 (s : ByteArray) : strings_IndexByte.f s 60 = some (if drC 60 (bytesOf s) = [] then -1 else ((tkC 60 (bytesOf s)).length : Int)) := by
  have hb : bytesOf s = s.data.toList.map fun b => (b.toNat : Int) := rfl
  show some (Lib.indexByte s.data.toList (60 : Int).toNat.toUInt8) = _
  rw [show ((60 : Int).toNat.toUInt8) = (60 : UInt8) from rfl, indexByte_tk]
  congr 1
  have e1 := map_tk 60 s.data.toList
  have e2 := map_dr 60 s.data.toList
  rw [show (((60 : UInt8).toNat : Nat) : Int) = 60 from rfl, ← hb] at e1 e2
  rw [← e1, ← e2]
  simp only [List.map_eq_nil_iff, List.length_map]
/-- a text, and what stands behind it -/
theorem impl_Pieces_l0 : ∀ (n : Nat) (s : ByteArray) (out : List Pc), s.size ≤ n → s.size ≤ 1048576 → out.length ≤ 60 → Ev (fun k => impl_Pieces.l0 k s (out.map toS28)) (resP (pcs n (bytesOf s) out)) := by
  intro n
  induction n with
  | zero =>
    intro s out hn hs ho
    have hb : bytesOf s = [] := List.eq_nil_of_length_eq_zero (by rw [bytesOf_length]; omega)
    apply ev_succ
    simp only [impl_Pieces.l0, lit_iff, hb, List.map_nil, if_true]
    exact Ev.now _
  | succ n ih =>
    intro s out hn hs ho
    have hl := bytesOf_length s
    cases hd : bytesOf s with
    | nil =>
      have e : pcs (n + 1) [] out = some out := by simp [pcs]
      rw [e]
      apply ev_succ
      simp only [impl_Pieces.l0, lit_iff, hd, List.map_nil, if_true]
      exact Ev.now _
    | cons c r =>
      have hd0 : (bytesOf s).drop 0 = c :: r := hd
      obtain ⟨hb, hi, hdr⟩ := bt_drop hd0
      have hb' : bt s 0 = c := hb
      have hlr : r.length + 1 = s.size := by rw [← hl, hd, List.length_cons]
      apply ev_succ
      simp only [impl_Pieces.l0, lit_iff, List.map_nil, hd, List.cons_ne_nil, if_false, if_pos (show (0 : Int) < (s.size : Int) by omega), hb', List.length_map]
      rw [pcs]
      by_cases q1 : c = 60
      · subst q1
        simp only [if_true]
        obtain ⟨v, hv, hP⟩ := impl_markAt_ev s hs r hd
        refine Ev.bind hv ?_
        cases hm : markM r with
        | none =>
          rw [hm] at hP
          have hP' : v.2.2.2.2.2.2 = false := hP
          simp only [hP', Bool.false_eq_true, if_false, ite_self]
          exact Ev.now _
        | some x =>
          obtain ⟨pc, u⟩ := x
          rw [hm] at hP
          obtain ⟨rest, rfl, hr⟩ := hP
          have hu := markM_suf hm
          simp only at hu
          have hul := hu.length_le
          simp only [if_true]
          by_cases q0 : out.length = 60
          · simp only [if_pos (show (out.length : Int) ≥ 60 by omega), if_pos q0]
            exact Ev.now _
          · simp only [if_neg (show ¬ (out.length : Int) ≥ 60 by omega), if_neg q0, if_pos (show out.length < 2199023255552 by omega)]
            have hrl : rest.size = u.length := by rw [size_len, hr]
            have := ih rest (out ++ [pc]) (by omega) (by omega) (by rw [List.length_append]; simp; omega)
            rw [hr, ← map_snoc28] at this
            exact this
      · simp only [if_neg q1, indexByte60, Option.bind_some]
        have h3 := drC_len 60 (bytesOf s)
        have ht : 0 < (tkC 60 (bytesOf s)).length := by rw [hd]; simp [tkC, q1]
        have htk := tk_extract 60 s 0 (by omega)
        rw [List.drop_zero, Nat.zero_add] at htk
        obtain ⟨h1, h2, _⟩ := htk
        rw [← hd]
        generalize hT : tkC 60 (bytesOf s) = T at *
        generalize hD : drC 60 (bytesOf s) = D at *
        have fin : ∀ E : Nat, E = T.length → Ev (fun k => (impl_Unescape.f k (s.extract 0 E)).bind fun bt241 => (if bt241.2 = true then (if (out.length : Int) ≥ 60 then (some (([] : List (S28)), false)) else (if out.length < 2199023255552 then (impl_Pieces.l0 k (s.extract E s.size) (out.map toS28 ++ [(⟨4, (⟨#[]⟩ : ByteArray), (⟨#[]⟩ : ByteArray), false, bt241.1⟩ : S28)])) else (none))) else (some (([] : List (S28)), false)))) (resP (if out.length = 60 then none else match un T [] with
            | none => none
            | some t => pcs n D (out ++ [⟨4, [], [], false, t⟩]))) := by
          intro E hE
          subst hE
          have hu := impl_Unescape_ev (s.extract 0 T.length) (by rw [ByteArray.size_extract]; omega)
          rw [h1] at hu
          refine Ev.bind hu ?_
          have hrest : bytesOf (s.extract T.length s.size) = D := by
            rw [bytesOf_extract, List.take_of_length_le (by rw [bytesOf_length]; exact Nat.le_refl _), h2]
          cases hun : un T [] with
          | none =>
            simp only [resU, Bool.false_eq_true, if_false, ite_self]
            exact Ev.now _
          | some t =>
            simp only [resU, if_true]
            by_cases q0 : out.length = 60
            · simp only [if_pos (show (out.length : Int) ≥ 60 by omega), if_pos q0]
              exact Ev.now _
            · simp only [if_neg (show ¬ (out.length : Int) ≥ 60 by omega), if_neg q0, if_pos (show out.length < 2199023255552 by omega)]
              have := ih (s.extract T.length s.size) (out ++ [⟨4, [], [], false, t⟩]) (by rw [ByteArray.size_extract]; omega) (by rw [ByteArray.size_extract]; omega) (by rw [List.length_append]; simp; omega)
              rw [hrest, ← map_snoc28] at this
              exact this
        by_cases q2 : D = []
        · simp only [if_pos q2, if_pos (show (-1 : Int) < 0 by omega), if_pos (show (0 : Int) ≤ (s.size : Int) by omega), if_pos (show (s.size : Int) ≤ (s.size : Int) by omega)]
          rw [q2, List.length_nil] at h3
          exact fin s.size (by omega)
        · simp only [if_neg q2, if_neg (show ¬ (T.length : Int) < 0 by omega), if_pos (show (0 : Int) ≤ (T.length : Int) by omega), if_pos (show (T.length : Int) ≤ (s.size : Int) by omega), Int.toNat_natCast]
          exact fin T.length rfl
theorem impl_Pieces_ev (s : ByteArray) (hs : s.size ≤ 1048576) : Ev (fun k => impl_Pieces.f k s) (if plainB (bytesOf s) = true then resP (pcs s.size (bytesOf s) []) else ([], false)) := by
  unfold impl_Pieces.f
  refine Ev.bind (impl_Plain_ev s (by omega)) ?_
  by_cases q : plainB (bytesOf s) = true
  · simp only [q, if_true]
    exact impl_Pieces_l0 s.size s [] (Nat.le_refl _) hs (by simp)
  · simp only [if_neg q]
    exact Ev.now _

/-! what is drawn: something, with what is known of it -/
theorem bits255 (x : Int) : 0 ≤ Go.bits .and .i64 x 255 ∧ Go.bits .and .i64 x 255 ≤ 255 := by
  have h2 : (BitVec.ofInt 64 x).toNat &&& 255 ≤ 255 := Nat.and_le_right
  have h : Go.bits .and .i64 x 255 = IntKind.i64.wrap (((BitVec.ofInt 64 x &&& BitVec.ofInt 64 255).toNat : Nat) : Int) := rfl
  have e : (BitVec.ofInt 64 255).toNat = 255 := by decide
  rw [h, BitVec.toNat_and, e, IntKind.wrap_i64]
  omega
def Dr {α : Type} (f : List Int → Int → Int → Option (α × Int × Int)) (P : α → Prop) : Prop :=
  ∀ (b : List Int) (i h : Int), b.length ≤ 1048576 → 0 ≤ i → i ≤ b.length → ∃ x i' h', f b i h = some (x, i', h') ∧ P x ∧ 0 ≤ i' ∧ i' ≤ b.length
def DrE {α : Type} (f : Nat → List Int → Int → Int → Option (α × Int × Int)) (P : α → Prop) : Prop :=
  ∀ (b : List Int) (i h : Int), b.length ≤ 1048576 → 0 ≤ i → i ≤ b.length → ∃ x i' h', Ev (fun k => f k b i h) (x, i', h') ∧ P x ∧ 0 ≤ i' ∧ i' ≤ b.length
theorem l1New_ev (l : List Int) (hl : l.length ≤ 1048576) : ∃ h, Ev (fun k => spec_l1New.f k l) (l, (0 : Int), h) := by
  have key : ∀ n i (x : Int), l.length - i = n → ∃ h, Ev (fun k => spec_l1New.l0 k l x (i : Int)) (l, (0 : Int), h) := by
    intro n
    induction n with
    | zero =>
      intro i x hn
      refine ⟨x, ?_⟩
      apply ev_succ; simp only [spec_l1New.l0, if_neg (show ¬ (i : Int) < (l.length : Int) by omega)]; exact Ev.now _
    | succ n ih =>
      intro i x hn
      by_cases h4 : (i : Int) < 4000
      · obtain ⟨h, hh⟩ := ih (i + 1) (Go.bits .and .i64 (wrap64 ((wrap64 ((wrap64 (x * 137)) + (wrap64 (rd l i)))) + 11)) 1073741823) (by omega)
        refine ⟨h, ?_⟩
        apply ev_succ
        simp only [spec_l1New.l0, if_pos (show (i : Int) < (l.length : Int) by omega), if_pos h4, if_pos (show (0 : Int) ≤ (i : Int) by omega), wrap_id (x := (i : Int) + 1) (by omega) (by omega)]
        exact hh
      · refine ⟨x, ?_⟩
        apply ev_succ; simp only [spec_l1New.l0, if_pos (show (i : Int) < (l.length : Int) by omega), if_neg h4]; exact Ev.now _
  exact key _ 0 _ rfl
theorem l1Byte_dr : Dr spec_l1Byte.f (fun x => 0 ≤ x ∧ x ≤ 255) := by
  intro b i h hb h0 h1
  unfold spec_l1Byte.f
  by_cases q : i < (b.length : Int)
  · rw [if_pos q, if_pos h0]
    exact ⟨_, _, _, rfl, bits255 _, by rw [wrap_id (by omega) (by omega)]; omega, by rw [wrap_id (by omega) (by omega)]; omega⟩
  · rw [if_neg q]
    exact ⟨_, _, _, rfl, bits255 _, h0, h1⟩
theorem tmod_range (x n : Int) (hx : 0 ≤ x) (hn : 0 < n) : 0 ≤ Int.tmod x n ∧ Int.tmod x n < n := by
  rw [Int.tmod_eq_emod_of_nonneg hx]
  exact ⟨Int.emod_nonneg _ (by omega), Int.emod_lt_of_pos _ hn⟩
theorem l1Below_dr (n : Int) : Dr (fun b i h => spec_l1Below.f b i h n) (fun x => 0 ≤ x ∧ (0 < n → x < n)) := by
  intro b i h hb h0 h1
  show ∃ x i' h', spec_l1Below.f b i h n = some (x, i', h') ∧ _
  unfold spec_l1Below.f
  by_cases q : n ≤ 0
  · rw [if_pos q]
    exact ⟨_, _, _, rfl, ⟨by omega, by omega⟩, h0, h1⟩
  · rw [if_neg q]
    obtain ⟨x, i1, e1, f1, p1, a1, b1⟩ := l1Byte_dr b i h hb h0 h1
    by_cases q1 : n ≤ 256
    · rw [if_pos q1, f1]
      simp only [Option.bind_some, if_neg (show ¬ n = 0 by omega)]
      have := tmod_range x n p1.1 (by omega)
      exact ⟨_, _, _, rfl, ⟨this.1, fun _ => this.2⟩, a1, b1⟩
    · rw [if_neg q1, f1]
      obtain ⟨y, i2, e2, f2, p2, a2, b2⟩ := l1Byte_dr b i1 e1 hb a1 b1
      obtain ⟨z, i3, e3, f3, p3, a3, b3⟩ := l1Byte_dr b i2 e2 hb a2 b2
      simp only [Option.bind_some, f2, f3, if_neg (show ¬ n = 0 by omega)]
      rw [wrap_id (x := x * 65536) (by omega) (by omega), wrap_id (x := y * 256) (by omega) (by omega), wrap_id (x := x * 65536 + y * 256) (by omega) (by omega), wrap_id (x := x * 65536 + y * 256 + z) (by omega) (by omega)]
      have := tmod_range (x * 65536 + y * 256 + z) n (by omega) (by omega)
      exact ⟨_, _, _, rfl, ⟨this.1, fun _ => this.2⟩, a3, b3⟩

theorem l1Str_dr (l : List ByteArray) (hl : 0 < l.length) : Dr (fun b i h => spec_l1Str.f b i h l) (fun x => x ∈ l) := by
  intro b i h hb h0 h1
  obtain ⟨x, i1, e1, f1, p1, a1, b1⟩ := l1Below_dr (l.length : Int) b i h hb h0 h1
  have f1' : spec_l1Below.f b i h (l.length : Int) = some (x, i1, e1) := f1
  have hx := p1.2 (by omega)
  show ∃ x i' h', spec_l1Str.f b i h l = some (x, i', h') ∧ _
  unfold spec_l1Str.f
  rw [f1']
  simp only [Option.bind_some, if_pos p1.1, if_pos hx]
  refine ⟨_, _, _, rfl, ?_, a1, b1⟩
  have hn : x.toNat < l.length := by omega
  rw [rdOf, List.getD_eq_getElem?_getD, List.getElem?_eq_getElem hn]
  exact List.getElem_mem hn
theorem Dr.of_str {P : ByteArray → Prop} {l : List ByteArray} {f : List Int → Int → Int → Option (ByteArray × Int × Int)} (hf : ∀ b i h, f b i h = (spec_l1Str.f b i h l).bind fun t => some (t.1, t.2.1, t.2.2)) (hl : 0 < l.length) (hP : ∀ x ∈ l, P x) : Dr f P := by
  intro b i h hb h0 h1
  obtain ⟨x, i1, e1, f1, p1, a1, b1⟩ := l1Str_dr l hl b i h hb h0 h1
  have f1' : spec_l1Str.f b i h l = some (x, i1, e1) := f1
  rw [hf, f1']
  exact ⟨_, _, _, rfl, hP x p1, a1, b1⟩

theorem l1Once_dr (n : Int) : Dr (fun b i h => spec_l1Once.f b i h n) (fun _ => True) := by
  intro b i h hb h0 h1
  obtain ⟨x, i1, e1, f1, p1, a1, b1⟩ := l1Below_dr n b i h hb h0 h1
  have f1' : spec_l1Below.f b i h n = some (x, i1, e1) := f1
  show ∃ x i' h', spec_l1Once.f b i h n = some (x, i', h') ∧ _
  unfold spec_l1Once.f
  rw [f1']
  exact ⟨_, _, _, rfl, trivial, a1, b1⟩

/-- a drawn piece: it comes back, its bytes are plain, it is short -/
def PcG (p : Pc) : Prop := PcOk p ∧ plainB p.name = true ∧ plainB p.ns = true ∧ plainB p.s = true ∧ p.name.length ≤ 20 ∧ p.ns.length ≤ 20 ∧ p.s.length ≤ 20
theorem plain_range (l : List Int) (h : plainB l = true) : ∀ x ∈ l, 0 ≤ x ∧ x < 256 := by
  intro x hx
  have := List.all_eq_true.1 h x hx
  simp only [plainC, Bool.and_eq_true, decide_eq_true_eq] at this
  omega
theorem plain_app (a b : List Int) : plainB (a ++ b) = (plainB a && plainB b) := List.all_append
theorem plain_escL : ∀ l : List Int, plainB l = true → plainB (escL l) = true
  | [], _ => rfl
  | c :: r, h => by
    have e : escL (c :: r) = escC c ++ escL r := by simp [escL]
    simp only [plainB, List.all_cons, Bool.and_eq_true] at h
    rw [e, plain_app, plain_escL r h.2, Bool.and_true]
    unfold escC
    by_cases q1 : c = 38
    · rw [if_pos q1]; decide
    rw [if_neg q1]
    by_cases q2 : c = 60
    · rw [if_pos q2]; decide
    rw [if_neg q2]
    by_cases q3 : c = 62
    · rw [if_pos q3]; decide
    rw [if_neg q3]
    by_cases q4 : c = 34
    · rw [if_pos q4]; decide
    rw [if_neg q4]
    simp [plainB, h.1]
theorem plain_pcText (p : Pc) (h : PcG p) : plainB (pcText p) = true := by
  obtain ⟨_, h1, h2, h3, _⟩ := h
  have e1 := plain_escL _ h2
  have e2 := plain_escL _ h3
  have e3 : plainB (pcSp p) = true := by
    unfold pcSp
    split
    · rw [plain_app, plain_app, e1]; decide
    · rfl
  have c1 : ∀ (a : Int) (r : List Int), plainB (a :: r) = (plainC a && plainB r) := fun _ _ => rfl
  unfold pcText
  split
  · rw [c1, plain_app, plain_app, h1, e3]; decide
  split
  · rw [c1, c1, plain_app, h1]; decide
  split
  · rw [c1, plain_app, plain_app, h1, e3]; decide
  · exact e2
theorem plain_pcsText (l : List Pc) (h : ∀ p ∈ l, PcG p) : plainB (pcsText l) = true := by
  induction l with
  | nil => rfl
  | cons p r ih =>
    have e : pcsText (p :: r) = pcText p ++ pcsText r := by simp [pcsText]
    rw [e, plain_app, plain_pcText p (h p (by simp)), ih (fun q hq => h q (by simp [hq]))]
    rfl
theorem bytesOf_esc (s : ByteArray) : bytesOf (esc s) = escL (bytesOf s) := bytesOf_strOfNums _ (escL_range _ (bytesOf_range s))
theorem pieceT_bytes (p : Pc) (h : PcG p) : bytesOf (pieceT p.k (strOfNums p.name) (spaceT p.has (strOfNums p.ns)) (strOfNums p.s)) = pcText p := by
  obtain ⟨_, h1, h2, h3, _⟩ := h
  have e1 := bytesOf_strOfNums _ (plain_range _ h1)
  have e2 := bytesOf_strOfNums _ (plain_range _ h2)
  have e3 := bytesOf_strOfNums _ (plain_range _ h3)
  have es : bytesOf (spaceT p.has (strOfNums p.ns)) = pcSp p := by
    unfold spaceT pcSp
    split
    · rw [bytesOf_append, bytesOf_append, bytesOf_esc, e2, List.append_assoc]; rfl
    · rfl
  unfold pieceT pcText
  split
  · rw [bytesOf_append, bytesOf_append, bytesOf_append, e1, es, List.append_assoc, List.append_assoc]; rfl
  split
  · rw [bytesOf_append, bytesOf_append, e1, List.append_assoc]; rfl
  split
  · rw [bytesOf_append, bytesOf_append, bytesOf_append, e1, es, List.append_assoc, List.append_assoc]; rfl
  · rw [bytesOf_esc, e3]
theorem pieceT_small (p : Pc) (h : PcG p) : (pieceT p.k (strOfNums p.name) (spaceT p.has (strOfNums p.ns)) (strOfNums p.s)).size ≤ 1000 := by
  obtain ⟨_, _, _, _, h4, h5, h6⟩ := h
  have a := pieceT_size p.k (strOfNums p.name) (spaceT p.has (strOfNums p.ns)) (strOfNums p.s)
  have b := spaceT_size p.has (strOfNums p.ns)
  rw [strOfNums_len] at a b
  rw [strOfNums_len] at a
  omega
theorem l7Draw_dr (b : List Int) (i h : Int) (hb : b.length ≤ 1048576) (h0 : 0 ≤ i) (h1 : i ≤ b.length) : ∃ (p : Pc) (i' h' : Int), spec_l7Draw.f b i h = some (p.k, strOfNums p.name, strOfNums p.ns, p.has, strOfNums p.s, i', h') ∧ PcG p ∧ 0 ≤ i' ∧ i' ≤ b.length := by
  obtain ⟨v, i1, e1, f1, p1, a1, b1⟩ := l1Below_dr 4 b i h hb h0 h1
  have f1' : spec_l1Below.f b i h 4 = some (v, i1, e1) := f1
  have hv := p1.2 (by omega)
  have hv0 := p1.1
  have hw : wrap64 (1 + v) = 1 + v := wrap_id (by omega) (by omega)
  have z : (⟨#[]⟩ : ByteArray) = strOfNums [] := rfl
  unfold spec_l7Draw.f
  simp only [f1', Option.bind_some, hw]
  by_cases q4 : 1 + v = 4
  · obtain ⟨y, i2, e2, f2, p2, a2, b2⟩ := l1Str_dr [(⟨#[97]⟩ : ByteArray), (⟨#[97, 38, 98]⟩ : ByteArray), (⟨#[60, 62]⟩ : ByteArray), (⟨#[34]⟩ : ByteArray), (⟨#[32]⟩ : ByteArray), (⟨#[120, 32, 121]⟩ : ByteArray)] (by decide) b i1 e1 hb a1 b1
    have f2' : spec_l1Str.f b i1 e1 _ = some (y, i2, e2) := f2
    have hy : bytesOf y ≠ [] ∧ plainB (bytesOf y) = true ∧ (bytesOf y).length ≤ 20 := (by decide : ∀ x ∈ _, bytesOf x ≠ [] ∧ plainB (bytesOf x) = true ∧ (bytesOf x).length ≤ 20) y p2
    refine ⟨⟨1 + v, [], [], false, bytesOf y⟩, i2, e2, ?_, ⟨.inl ⟨q4, hy.1, rfl, rfl, rfl⟩, rfl, rfl, hy.2.1, by simp, by simp, hy.2.2⟩, a2, b2⟩
    rw [if_pos q4, f2']
    simp only [Option.bind_some, strOfNums_bytesOf, z]
  · rw [if_neg q4]
    obtain ⟨y, i2, e2, f2, p2, a2, b2⟩ := l1Str_dr [(⟨#[97]⟩ : ByteArray), (⟨#[98]⟩ : ByteArray), (⟨#[112, 114, 111, 112]⟩ : ByteArray), (⟨#[120, 45, 49]⟩ : ByteArray)] (by decide) b i1 e1 hb a1 b1
    have f2' : spec_l1Str.f b i1 e1 _ = some (y, i2, e2) := f2
    have hy : smallN (bytesOf y) = true ∧ plainB (bytesOf y) = true ∧ (bytesOf y).length ≤ 20 := (by decide : ∀ x ∈ _, smallN (bytesOf x) = true ∧ plainB (bytesOf x) = true ∧ (bytesOf x).length ≤ 20) y p2
    simp only [f2', Option.bind_some]
    by_cases q2 : 1 + v = 2
    · refine ⟨⟨1 + v, bytesOf y, [], false, []⟩, i2, e2, ?_, ⟨.inr (.inr ⟨q2, hy.1, rfl, rfl, rfl⟩), hy.2.1, rfl, rfl, hy.2.2, by simp, by simp⟩, a2, b2⟩
      rw [if_pos q2]
      simp only [strOfNums_bytesOf, z]
    · rw [if_neg q2]
      obtain ⟨o, i3, e3, f3, _, a3, b3⟩ := l1Once_dr 2 b i2 e2 hb a2 b2
      have f3' : spec_l1Once.f b i2 e2 2 = some (o, i3, e3) := f3
      simp only [f3', Option.bind_some]
      have hk : 1 + v = 1 ∨ 1 + v = 3 := by omega
      cases o with
      | true =>
        obtain ⟨u, i4, e4, f4, p4, a4, b4⟩ := l1Str_dr [(⟨#[]⟩ : ByteArray), (⟨#[68, 65, 86, 58]⟩ : ByteArray), (⟨#[97, 60, 98]⟩ : ByteArray), (⟨#[34, 113]⟩ : ByteArray)] (by decide) b i3 e3 hb a3 b3
        have f4' : spec_l1Str.f b i3 e3 _ = some (u, i4, e4) := f4
        have hu : plainB (bytesOf u) = true ∧ (bytesOf u).length ≤ 20 := (by decide : ∀ x ∈ _, plainB (bytesOf x) = true ∧ (bytesOf x).length ≤ 20) u p4
        refine ⟨⟨1 + v, bytesOf y, bytesOf u, true, []⟩, i4, e4, ?_, ⟨.inr (.inl ⟨hk, hy.1, rfl, fun (h : true = false) => absurd h (by simp), hu.2⟩), hy.2.1, hu.1, rfl, hy.2.2, hu.2, by simp⟩, a4, b4⟩
        simp only [if_true, f4', Option.bind_some, strOfNums_bytesOf]; rfl
      | false =>
        refine ⟨⟨1 + v, bytesOf y, [], false, []⟩, i3, e3, ?_, ⟨.inr (.inl ⟨hk, hy.1, rfl, fun _ => rfl, by simp⟩), hy.2.1, rfl, rfl, hy.2.2, by simp, by simp⟩, a3, b3⟩
        simp only [Bool.false_eq_true, if_false, strOfNums_bytesOf, z]
theorem noTwo_snoc : ∀ (l : List Pc) (p : Pc), NoTwo l → (∀ q, l.getLast? = some q → p.k = 4 → q.k ≠ 4) → NoTwo (l ++ [p])
  | [], p, _, _ => trivial
  | [a], p, _, h => ⟨fun ha hp => h a rfl hp ha, trivial⟩
  | a :: b :: r, p, h, hl => by
    refine ⟨h.1, ?_⟩
    exact noTwo_snoc (b :: r) p h.2 (fun q hq => hl q (by rw [List.getLast?_cons_cons]; exact hq))
theorem drawPieceList_l0 : ∀ (n : Nat) (l : List Pc) (b : List Int) (i h : Int), n + l.length ≤ 8 → (∀ p ∈ l, PcG p) → NoTwo l → b.length ≤ 1048576 → 0 ≤ i → i ≤ b.length → ∃ l', Ev (fun k => spec_DrawPieceList.l0 k (l.map toS28) (n : Int) b i h) (l'.map toS28) ∧ l'.length ≤ 8 ∧ (∀ p ∈ l', PcG p) ∧ NoTwo l'
  | 0, l, b, i, h, hn, hG, h2, hb, h0, h1 => by
    refine ⟨l, ?_, by omega, hG, h2⟩
    apply ev_succ
    simp only [spec_DrawPieceList.l0, if_neg (show ¬ ((0 : Nat) : Int) > 0 by omega)]
    exact Ev.now _
  | n + 1, l, b, i, h, hn, hG, h2, hb, h0, h1 => by
    obtain ⟨p, i1, e1, f1, p1, a1, b1⟩ := l7Draw_dr b i h hb h0 h1
    have hw : wrap64 (((n + 1 : Nat) : Int) - 1) = (n : Int) := by rw [wrap_id (by omega) (by omega)]; omega
    have hwl : wrap64 ((l.length : Int) - 1) = (l.length : Int) - 1 := wrap_id (by omega) (by omega)
    -- the piece is put behind
    have put : (p.k = 4 → ∀ q, l.getLast? = some q → q.k ≠ 4) → ∃ l', Ev (fun k => spec_DrawPieceList.l0 k (l.map toS28 ++ [toS28 p]) (n : Int) b i1 e1) (l'.map toS28) ∧ l'.length ≤ 8 ∧ (∀ p ∈ l', PcG p) ∧ NoTwo l' := by
      intro hq
      rw [map_snoc28]
      refine drawPieceList_l0 n (l ++ [p]) b i1 e1 (by rw [List.length_append]; simp; omega) ?_ (noTwo_snoc l p h2 (fun q e k => hq k q e)) hb a1 b1
      intro q hq
      rcases List.mem_append.1 hq with hq | hq
      · exact hG q hq
      · simp only [List.mem_cons, List.not_mem_nil, or_false] at hq
        subst hq; exact p1
    by_cases q4 : p.k = 4
    · by_cases ql : l = []
      · subst ql
        obtain ⟨l', hl', r⟩ := put (fun _ q hq => by cases hq)
        refine ⟨l', ?_, r⟩
        apply ev_succ
        simp only [spec_DrawPieceList.l0, if_pos (show ((n + 1 : Nat) : Int) > 0 by omega), f1, Option.bind_some, if_pos q4, List.map_nil, List.length_nil, if_pos (show ((0 : Nat) : Int) = 0 from rfl), if_pos (show 0 < 2199023255552 by omega), hw]
        exact hl'
      · have hl0 : 0 < l.length := by cases l with
          | nil => exact absurd rfl ql
          | cons a r => simp
        obtain ⟨q, hq⟩ : ∃ q, l.getLast? = some q := by
          cases hc : l.getLast? with
          | none => rw [List.getLast?_eq_none_iff] at hc; exact absurd hc ql
          | some q => exact ⟨q, rfl⟩
        have hrd : (rd_T28 (l.map toS28) ((l.length : Int) - 1)) = toS28 q := by
          unfold rd_T28
          rw [List.getD_eq_getElem?_getD, show ((l.length : Int) - 1).toNat = l.length - 1 by omega, List.getElem?_map, ← List.getLast?_eq_getElem?, hq]
          rfl
        have hk : (toS28 q).f0 = q.k := rfl
        by_cases qq : q.k = 4
        · obtain ⟨l', hl', r⟩ := drawPieceList_l0 n l b i1 e1 (by omega) hG h2 hb a1 b1
          refine ⟨l', ?_, r⟩
          apply ev_succ
          simp only [spec_DrawPieceList.l0, if_pos (show ((n + 1 : Nat) : Int) > 0 by omega), f1, Option.bind_some, if_pos q4, List.length_map, if_neg (show ¬ (l.length : Int) = 0 by omega), hwl, if_pos (show (0 : Int) ≤ (l.length : Int) - 1 by omega), if_pos (show (l.length : Int) - 1 < (l.length : Int) by omega), hrd, hk, if_pos qq, hw]
          exact hl'
        · obtain ⟨l', hl', r⟩ := put (fun _ q' hq' => by rw [hq] at hq'; injection hq' with e; rw [← e]; exact qq)
          refine ⟨l', ?_, r⟩
          apply ev_succ
          simp only [spec_DrawPieceList.l0, if_pos (show ((n + 1 : Nat) : Int) > 0 by omega), f1, Option.bind_some, if_pos q4, List.length_map, if_neg (show ¬ (l.length : Int) = 0 by omega), hwl, if_pos (show (0 : Int) ≤ (l.length : Int) - 1 by omega), if_pos (show (l.length : Int) - 1 < (l.length : Int) by omega), hrd, hk, if_neg qq, hw, if_pos (show l.length < 2199023255552 by omega)]
          exact hl'
    · obtain ⟨l', hl', r⟩ := put (fun h => absurd h q4)
      refine ⟨l', ?_, r⟩
      apply ev_succ
      simp only [spec_DrawPieceList.l0, if_pos (show ((n + 1 : Nat) : Int) > 0 by omega), f1, Option.bind_some, if_neg q4, List.length_map, hw, if_pos (show l.length < 2199023255552 by omega)]
      exact hl'
theorem drawPieceList_ev (l : List Int) (hl : l.length ≤ 1048576) : ∃ d : List Pc, Ev (fun k => spec_DrawPieceList.f k l) (d.map toS28) ∧ d.length ≤ 8 ∧ (∀ p ∈ d, PcG p) ∧ NoTwo d := by
  obtain ⟨h, hn⟩ := l1New_ev l hl
  obtain ⟨v, i1, e1, f1, p1, a1, b1⟩ := l1Below_dr 8 l 0 h hl (by omega) (by omega)
  have f1' : spec_l1Below.f l 0 h 8 = some (v, i1, e1) := f1
  have hv := p1.2 (by omega)
  have hv0 := p1.1
  obtain ⟨d, hd, r⟩ := drawPieceList_l0 v.toNat [] l i1 e1 (by simp; omega) (by simp) trivial hl a1 b1
  refine ⟨d, ?_, r⟩
  unfold spec_DrawPieceList.f
  refine Ev.bind hn ?_
  simp only [f1', Option.bind_some]
  rw [show ((v.toNat : Nat) : Int) = v by omega] at hd
  exact hd
theorem drawPieces_l1 : ∀ (n i : Nat) (x : ByteArray), 60 - i = n → i ≤ 60 → x.size ≤ 1000000 + 4 * i → ∃ t, Ev (fun k => spec_DrawPieces.l1 k x (i : Int)) t ∧ t.size ≤ 1048576
  | 0, i, x, hn, hi, hx => by
    refine ⟨x, ?_, by omega⟩
    apply ev_succ
    simp only [spec_DrawPieces.l1, if_neg (show ¬ (i : Int) < 60 by omega)]
    exact Ev.now _
  | n + 1, i, x, hn, hi, hx => by
    have hw : wrap64 ((i : Int) + 1) = ((i + 1 : Nat) : Int) := by rw [wrap_id (by omega) (by omega)]; omega
    obtain ⟨t, ht, hz⟩ := drawPieces_l1 n (i + 1) (x ++ (⟨#[60, 97, 47, 62]⟩ : ByteArray)) (by omega) (by omega) (by
      rw [ByteArray.size_append, show (⟨#[60, 97, 47, 62]⟩ : ByteArray).size = 4 from rfl]; omega)
    refine ⟨t, ?_, hz⟩
    apply ev_succ
    simp only [spec_DrawPieces.l1, if_pos (show (i : Int) < 60 by omega), if_pos (show x.size + 4 ≤ 9223372036854775807 by omega), hw]
    exact ht
theorem drawPieces_l0 : ∀ (n : Nat) (x : ByteArray) (b : List Int) (i h : Int), n ≤ 8 → x.size ≤ 10000 - 1000 * n → b.length ≤ 1048576 → 0 ≤ i → i ≤ b.length → ∃ t, Ev (fun k => spec_DrawPieces.l0 k x (n : Int) b i h) t ∧ t.size ≤ 1048576
  | 0, x, b, i, h, hn, hx, hb, h0, h1 => by
    obtain ⟨v, i1, e1, f1, p1, a1, b1⟩ := l1Below_dr 5 b i h hb h0 h1
    have f1' : spec_l1Below.f b i h 5 = some (v, i1, e1) := f1
    by_cases c0 : v = 0
    · obtain ⟨y, i2, e2, f2, p2, a2, b2⟩ := l1Str_dr [(⟨#[60]⟩ : ByteArray), (⟨#[60, 97]⟩ : ByteArray), (⟨#[60, 97, 32, 62]⟩ : ByteArray), (⟨#[60, 49, 62]⟩ : ByteArray), (⟨#[60, 47, 97, 47, 62]⟩ : ByteArray), (⟨#[60, 97, 32, 120, 109, 108, 110, 115, 61, 62]⟩ : ByteArray), (⟨#[60, 97, 32, 120, 109, 108, 110, 115, 61, 34, 120, 62]⟩ : ByteArray), (⟨#[60, 65, 62]⟩ : ByteArray), (⟨#[1]⟩ : ByteArray), (⟨#[60, 97, 32, 98, 61, 34, 99, 34, 62]⟩ : ByteArray), (⟨#[60, 47, 62]⟩ : ByteArray), (⟨#[60, 97, 32, 120, 109, 108, 110, 115, 61, 34, 38, 108, 116, 59, 34, 47, 62]⟩ : ByteArray), (⟨#[38]⟩ : ByteArray), (⟨#[60, 97, 32, 120, 109, 108, 110, 115, 61, 34, 116, 119, 101, 110, 116, 121, 45, 111, 110, 101, 45, 98, 121, 116, 101, 115, 45, 115, 112, 97, 99, 101, 115, 34, 62]⟩ : ByteArray)] (by decide) b i1 e1 hb a1 b1
      have f2' : spec_l1Str.f b i1 e1 _ = some (y, i2, e2) := f2
      have hy : y.size ≤ 50 := (by decide : ∀ x ∈ _, x.size ≤ 50) y p2
      refine ⟨x ++ y, ?_, by rw [ByteArray.size_append]; omega⟩
      apply ev_succ
      simp only [spec_DrawPieces.l0, if_neg (show ¬ ((0 : Nat) : Int) > 0 by omega), f1', Option.bind_some, if_pos c0, f2', if_pos (show x.size + y.size ≤ 9223372036854775807 by omega)]
      exact Ev.now _
    by_cases c1 : v = 1
    · obtain ⟨o, i3, e3, f3, _, a3, b3⟩ := l1Once_dr 6 b i1 e1 hb a1 b1
      have f3' : spec_l1Once.f b i1 e1 6 = some (o, i3, e3) := f3
      cases o with
      | true =>
        obtain ⟨t, ht, hz⟩ := drawPieces_l1 60 0 x rfl (by omega) (by omega)
        refine ⟨t, ?_, hz⟩
        apply ev_succ
        simp only [spec_DrawPieces.l0, if_neg (show ¬ ((0 : Nat) : Int) > 0 by omega), f1', Option.bind_some, if_neg c0, if_pos c1, f3', if_true]
        exact ht
      | false =>
        refine ⟨x, ?_, by omega⟩
        apply ev_succ
        simp only [spec_DrawPieces.l0, if_neg (show ¬ ((0 : Nat) : Int) > 0 by omega), f1', Option.bind_some, if_neg c0, if_pos c1, f3', Bool.false_eq_true, if_false]
        exact Ev.now _
    · refine ⟨x, ?_, by omega⟩
      apply ev_succ
      simp only [spec_DrawPieces.l0, if_neg (show ¬ ((0 : Nat) : Int) > 0 by omega), f1', Option.bind_some, if_neg c0, if_neg c1]
      exact Ev.now _
  | n + 1, x, b, i, h, hn, hx, hb, h0, h1 => by
    obtain ⟨p, i1, e1, f1, p1, a1, b1⟩ := l7Draw_dr b i h hb h0 h1
    have hw : wrap64 (((n + 1 : Nat) : Int) - 1) = (n : Int) := by rw [wrap_id (by omega) (by omega)]; omega
    have hz := pieceT_small p p1
    obtain ⟨_, _, _, _, h4, h5, h6⟩ := p1
    have ht := spec_PieceText_ev p.k (strOfNums p.name) (strOfNums p.ns) (strOfNums p.s) p.has (by rw [strOfNums_len]; omega) (by rw [strOfNums_len]; omega) (by rw [strOfNums_len]; omega)
    generalize pieceT p.k (strOfNums p.name) (spaceT p.has (strOfNums p.ns)) (strOfNums p.s) = T at hz ht
    obtain ⟨t, hr, hs⟩ := drawPieces_l0 n (x ++ T) b i1 e1 (by omega) (by rw [ByteArray.size_append]; omega) hb a1 b1
    refine ⟨t, ?_, hs⟩
    apply ev_succ
    simp only [spec_DrawPieces.l0, if_pos (show ((n + 1 : Nat) : Int) > 0 by omega), f1, Option.bind_some, hw]
    refine Ev.bind ht ?_
    simp only [if_pos (show x.size + T.size ≤ 9223372036854775807 by omega)]
    exact hr
theorem drawPieces_ev (l : List Int) (hl : l.length ≤ 1048576) : ∃ t, Ev (fun k => spec_DrawPieces.f k l) t ∧ t.size ≤ 1048576 := by
  obtain ⟨h, hn⟩ := l1New_ev l hl
  obtain ⟨v, i1, e1, f1, p1, a1, b1⟩ := l1Below_dr 5 l 0 h hl (by omega) (by omega)
  have f1' : spec_l1Below.f l 0 h 5 = some (v, i1, e1) := f1
  have hv := p1.2 (by omega)
  have hv0 := p1.1
  obtain ⟨t, ht, hz⟩ := drawPieces_l0 v.toNat (⟨#[]⟩ : ByteArray) l i1 e1 (by omega) (by show 0 ≤ _; omega) hl a1 b1
  refine ⟨t, ?_, hz⟩
  unfold spec_DrawPieces.f
  refine Ev.bind hn ?_
  simp only [f1', Option.bind_some]
  rw [show ((v.toNat : Nat) : Int) = v by omega] at ht
  exact ht
theorem drawPieceText_ev (l : List Int) (hl : l.length ≤ 1048576) : ∃ K name ns has s, Ev (fun k => spec_DrawPieceText.f k l) (K, name, ns, has, s) ∧ name.size ≤ 20 ∧ ns.size ≤ 20 ∧ s.size ≤ 20 := by
  obtain ⟨h, hn⟩ := l1New_ev l hl
  obtain ⟨p, i1, e1, f1, p1, a1, b1⟩ := l7Draw_dr l 0 h hl (by omega) (by omega)
  obtain ⟨o, i2, e2, f2, _, a2, b2⟩ := l1Once_dr 4 l i1 e1 hl a1 b1
  have f2' : spec_l1Once.f l i1 e1 4 = some (o, i2, e2) := f2
  obtain ⟨_, _, _, _, h4, h5, h6⟩ := p1
  cases o with
  | true =>
    obtain ⟨v, i3, e3, f3, p3, a3, b3⟩ := l1Below_dr 6 l i2 e2 hl a2 b2
    have f3' : spec_l1Below.f l i2 e2 6 = some (v, i3, e3) := f3
    refine ⟨v, strOfNums p.name, strOfNums p.ns, p.has, strOfNums p.s, ?_, by rw [strOfNums_len]; exact h4, by rw [strOfNums_len]; exact h5, by rw [strOfNums_len]; exact h6⟩
    unfold spec_DrawPieceText.f
    refine Ev.bind hn ?_
    simp only [f1, Option.bind_some, f2', if_true, f3']
    exact Ev.now _
  | false =>
    refine ⟨p.k, strOfNums p.name, strOfNums p.ns, p.has, strOfNums p.s, ?_, by rw [strOfNums_len]; exact h4, by rw [strOfNums_len]; exact h5, by rw [strOfNums_len]; exact h6⟩
    unfold spec_DrawPieceText.f
    refine Ev.bind hn ?_
    simp only [f1, Option.bind_some, f2', Bool.false_eq_true, if_false]
    exact Ev.now _

theorem samePieces_self (l : List S28) (hl : l.length ≤ 1048576) : Ev (fun k => laws_samePieces.f k l l) true := by
  unfold laws_samePieces.f
  refine ev_ite (fun _ => ?_) (fun h => absurd rfl h)
  have key : ∀ n i : Nat, l.length - i = n → Ev (fun k => laws_samePieces.l0 k l l (i : Int)) true := by
    intro n
    induction n with
    | zero =>
      intro i hn
      apply ev_succ
      simp only [laws_samePieces.l0, if_neg (show ¬ (i : Int) < (l.length : Int) by omega)]
      exact Ev.now _
    | succ n ih =>
      intro i hn
      have hw : wrap64 ((i : Int) + 1) = ((i + 1 : Nat) : Int) := by rw [wrap_id (by omega) (by omega)]; omega
      apply ev_succ
      simp only [laws_samePieces.l0, if_pos (show (i : Int) < (l.length : Int) by omega), if_pos (show (0 : Int) ≤ (i : Int) by omega), beq_self_eq_true, Bool.not_true, Bool.or_false, Bool.false_eq_true, if_false, hw]
      exact ih (i + 1) (by omega)
  exact key _ 0 rfl
theorem pcs_len : ∀ (n : Nat) (l : List Int) (out : List Pc) (r : List Pc), out.length ≤ 60 → pcs n l out = some r → r.length ≤ 60
  | 0, l, out, r, ho, h => by
    rw [pcs] at h
    injection h with h; subst h; exact ho
  | n + 1, [], out, r, ho, h => by
    rw [pcs] at h
    injection h with h; subst h; exact ho
  | n + 1, c :: l, out, r, ho, h => by
    rw [pcs] at h
    split at h
    · cases h
    split at h
    · split at h
      · cases h
      · exact pcs_len n _ _ r (by rw [List.length_append]; simp; omega) h
    · split at h
      · cases h
      · exact pcs_len n _ _ r (by rw [List.length_append]; simp; omega) h
theorem pcsText_take (l : List Pc) (i : Nat) (c : Pc) (h : l[i]? = some c) : pcsText (l.take (i + 1)) = pcsText (l.take i) ++ pcText c := by
  rw [List.take_add_one, h]
  simp [pcsText]
theorem ar_pieces (i n D X T : Nat) (hD : D ≤ 8) (hn : D - i = n + 1) (hi : i ≤ D) (hX : X ≤ 1000 * i) (hT : T ≤ 1000) : i < D ∧ (i : Int) < (D : Int) ∧ (0 : Int) ≤ (i : Int) ∧ wrap64 ((i : Int) + 1) = ((i + 1 : Nat) : Int) ∧ X + T ≤ 9223372036854775807 ∧ D - (i + 1) = n ∧ i + 1 ≤ D ∧ X + T ≤ 1000 * (i + 1) := by
  refine ⟨by omega, by omega, by omega, ?_, by omega, by omega, by omega, by omega⟩
  rw [wrap_id (by omega) (by omega)]; omega
theorem FnPieces : laws_FnPieces.Pure := by
  intro l _ _
  apply Ev.rounds
  unfold laws_FnPieces.f laws_big.f
  simp only [Option.bind_some]
  refine ev_iteB (fun _ => Ev.now _) (fun q => ?_)
  have hl : l.length ≤ 1048576 := by
    have := of_decide_eq_false q
    omega
  obtain ⟨d, hd, hd8, hG, h2⟩ := drawPieceList_ev l hl
  obtain ⟨t, ht, htz⟩ := drawPieces_ev l hl
  obtain ⟨K, name, ns, has, s, hp, hp1, hp2, hp3⟩ := drawPieceText_ev l hl
  refine Ev.bind hd ?_
  have key : ∀ (n i : Nat) (x : ByteArray), d.length - i = n → i ≤ d.length → bytesOf x = pcsText (d.take i) → x.size ≤ 1000 * i → Ev (fun k => laws_FnPieces.l0 k l (d.map toS28) x (i : Int)) true := by
    intro n
    induction n with
    | zero =>
      intro i x hn hi hx hz
      apply ev_succ
      simp only [laws_FnPieces.l0, List.length_map, if_neg (show ¬ (i : Int) < (d.length : Int) by omega)]
      rw [List.take_of_length_le (by omega)] at hx
      have hpl : plainB (bytesOf x) = true := by rw [hx]; exact plain_pcsText d hG
      have h1 := impl_Pieces_ev x (by omega)
      rw [if_pos hpl, hx, pcs_text d x.size [] (fun p hp => (hG p hp).1) h2 (by simp; omega) (by rw [← hx, bytesOf_length]; exact Nat.le_refl _)] at h1
      refine Ev.bind h1 (Ev.bind ht (Ev.bind (impl_Pieces_ev t htz) (Ev.bind (spec_Pieces_ev t htz) (Ev.bind hp ?_))))
      simp only [resP, List.nil_append, if_true]
      refine Ev.bind (samePieces_self _ (by rw [List.length_map]; omega)) ?_
      simp only [if_true, beq_self_eq_true]
      refine Ev.bind (samePieces_self _ ?_) ?_
      · split
        · cases hc : pcs t.size (bytesOf t) [] with
          | none => simp
          | some r =>
            have := pcs_len _ _ _ r (by simp) hc
            simp only [List.length_map]; omega
        · simp
      simp only [if_true]
      refine Ev.bind (impl_PieceText_ev K name ns s has (by omega) (by omega) (by omega)) (Ev.bind (spec_PieceText_ev K name ns s has (by omega) (by omega) (by omega)) ?_)
      simp only [beq_self_eq_true]
      exact Ev.now _
    | succ n ih =>
      intro i x hn hi hx hz
      have hil := (ar_pieces i n d.length x.size 0 hd8 hn hi hz (Nat.zero_le _)).1
      obtain ⟨c, hc⟩ : ∃ c, d[i]? = some c := ⟨_, List.getElem?_eq_getElem hil⟩
      have hcm : c ∈ d := List.mem_of_getElem? hc
      have hrd : rd_T28 (d.map toS28) (i : Int) = toS28 c := by
        unfold rd_T28
        rw [Int.toNat_natCast, List.getD_eq_getElem?_getD, List.getElem?_map, hc]
        rfl
      have hpt := pieceT_bytes c (hG c hcm)
      have hps := pieceT_small c (hG c hcm)
      obtain ⟨_, _, _, _, h4, h5, h6⟩ := hG c hcm
      have hev := impl_PieceText_ev c.k (strOfNums c.name) (strOfNums c.ns) (strOfNums c.s) c.has (by rw [strOfNums_len]; omega) (by rw [strOfNums_len]; omega) (by rw [strOfNums_len]; omega)
      generalize pieceT c.k (strOfNums c.name) (spaceT c.has (strOfNums c.ns)) (strOfNums c.s) = T at hpt hps hev
      obtain ⟨_, z1, z2, z3, z4, z5, z6, z7⟩ := ar_pieces i n d.length x.size T.size hd8 hn hi hz hps
      apply ev_succ
      simp only [laws_FnPieces.l0, List.length_map, if_pos z1, if_pos z2, hrd, z3]
      refine Ev.bind hev ?_
      simp only [if_pos z4]
      refine ih (i + 1) (x ++ T) z5 z6 ?_ (by rw [ByteArray.size_append]; exact z7)
      rw [bytesOf_append, hx, hpt, pcsText_take d i c hc]
  exact key d.length 0 (⟨#[]⟩ : ByteArray) rfl (by omega) rfl (by show 0 ≤ _; omega)

end Go.Proofs.YtfncjddolbghlaaDoor.Pure
