/- The program's ParsePath answers as the reference's does, for every text; no condition. -/
import Derived.Test.YtgfpiijpgpkoiabDoorGFnExactParsePathx5
import Derived.Test.YtgfpiijpgpkoiabDoorBase
import Derived.Lib.SplitLaws
import Derived.Lib.Bytealg
import Derived.Lib.ItoaNum
namespace Go.Proofs.YtgfpiijpgpkoiabDoor.Pure
open Go.RowKit Go.Proofs.YtgfpiijpgpkoiabDoor.GFnExactParsePath Go.Proofs.YtgfpiijpgpkoiabDoor.Base Go.Proofs.YtgfpiijpgpkoiabDoorW.PrintWords Go.Proofs.YtgfpiijpgpkoiabDoorW.PrintLast
set_option linter.unusedVariables false
set_option linter.unusedSimpArgs false

/-- a text's parts between the strokes; cur: the part that is open -/
def splA : List Int → List Int → List (List Int)
  | cur, [] => [cur]
  | cur, c :: r => if c = 47 then cur :: splA [] r else splA (cur ++ [c]) r
def parts (l : List Int) : List ByteArray := (splA [] l).map strOfNums
theorem take_snoc {l : List Int} {i st : Nat} {c : Int} {r : List Int} (h : l.drop i = c :: r) (hs : st ≤ i) : (l.take (i + 1)).drop st = (l.take i).drop st ++ [c] := by
  obtain ⟨_, h2, _, h4⟩ := l_drop h
  rw [List.take_add_one, h4, Option.toList_some, List.drop_append_of_le_length (by rw [List.length_take]; omega)]
theorem spec_l2Split_ev (s : ByteArray) (hs : s.size ≤ 1048576) : Ev (fun k => spec_l2Split.f k s 47) (parts (bytesOf s)) := by
  have key := str_loop_st s (fun i (x : List ByteArray × Nat) k => spec_l2Split.l0 k s 47 x.1 (x.2 : Int) (i : Int)) (fun i x r => x.1 ++ (splA (((bytesOf s).take i).drop x.2) r).map strOfNums) (fun i x r => x.2 ≤ i ∧ x.1.length ≤ i ∧ i + r.length = s.size) ?_ ?_ (by omega) 0 ([], 0) ⟨Nat.le_refl _, by simp, by simp [bytesOf_length]⟩
  · unfold spec_l2Split.f parts
    simpa using key
  · rintro i ⟨acc, st⟩ ⟨h1, h2, h3⟩ hi
    have hi' : i = s.size := by simpa using h3
    have hw : wrap64 ((i : Int) + 1) = ((i + 1 : Nat) : Int) := by rw [wrap_id (by omega) (by omega)]; rfl
    have a1 : (i : Int) ≤ (s.size : Int) := by omega
    have a2 : (i : Int) = (s.size : Int) := by omega
    have a3 : (0 : Int) ≤ (st : Int) := by omega
    have a4 : (st : Int) ≤ (i : Int) := by simp at h1; omega
    have a5 : acc.length < 8796093022208 := by simp at h2; omega
    have a6 : ¬ ((i + 1 : Nat) : Int) ≤ (s.size : Int) := by omega
    apply ev_succ
    simp only [spec_l2Split.l0, if_pos a1, if_pos a2, if_pos a3, if_pos a4, if_pos a5, hw, Int.toNat_natCast]
    apply ev_succ
    simp only [spec_l2Split.l0, if_neg a6]
    have e : s.extract st i = strOfNums (((bytesOf s).take i).drop st) := by rw [← bytesOf_extract, strOfNums_bytesOf]
    rw [e]
    exact Ev.now _
  · rintro i ⟨acc, st⟩ c r ⟨h1, h2, h3⟩ h hb hi hw hw1 ih
    have a1 : (i : Int) ≤ (s.size : Int) := by omega
    have a2 : ¬ (i : Int) = (s.size : Int) := by omega
    have a3 : (0 : Int) ≤ (st : Int) := by omega
    have a4 : (st : Int) ≤ (i : Int) := by simp at h1; omega
    have a5 : acc.length < 8796093022208 := by simp at h2; omega
    have a6 : (i : Int) < (s.size : Int) := by omega
    have a7 : (0 : Int) ≤ (i : Int) := by omega
    have a8 : i + 1 + r.length = s.size := by simp at h3; omega
    have a9 : st ≤ i := h1
    have a10 : acc.length ≤ i := h2
    apply ev_succ
    simp only [spec_l2Split.l0, if_pos a1, if_neg a2, if_pos a6, if_pos a7, hb, hw1]
    refine ev_ite (fun q => ?_) (fun q => ?_)
    · simp only [if_pos a3, if_pos a4, if_pos a5, Int.toNat_natCast]
      have := ih (acc ++ [s.extract st i], i + 1) ⟨Nat.le_refl _, by simp; exact a10, a8⟩
      have e : s.extract st i = strOfNums (((bytesOf s).take i).drop st) := by rw [← bytesOf_extract, strOfNums_bytesOf]
      have e2 : ((bytesOf s).take (i + 1)).drop (i + 1) = [] := List.drop_eq_nil_of_le (by rw [List.length_take]; exact Nat.min_le_left _ _)
      simp only [e2, e] at this
      rw [e]
      simp only [splA, if_pos q, List.map_cons]
      simpa using this
    · have := ih (acc, st) ⟨Nat.le_succ_of_le a9, Nat.le_succ_of_le a10, a8⟩
      simp only [take_snoc h a9] at this
      simp only [splA, if_neg q]
      exact this

theorem u8_eq {a : Int} (h0 : 0 ≤ a) (h1 : a < 256) (n : Nat) (hn : n < 256) : (UInt8.ofNat n == UInt8.ofNat a.toNat) = decide (a = n) := by
  rw [Bool.eq_iff_iff, beq_iff_eq, decide_eq_true_iff]
  constructor
  · intro h
    have := congrArg UInt8.toNat h
    simp only [UInt8.toNat_ofNat'] at this
    omega
  · rintro rfl; simp

def t47 (r : List Int) : List Int := r.takeWhile fun c => decide (c ≠ 47)
def d47 (r : List Int) : List Int := r.dropWhile fun c => decide (c ≠ 47)
theorem t47_d47 (r : List Int) : t47 r ++ d47 r = r := List.takeWhile_append_dropWhile
theorem splA_cut : ∀ (l cur : List Int), splA cur l = if d47 l = [] then [cur ++ l] else (cur ++ t47 l) :: splA [] (d47 l).tail
  | [], cur => by simp [splA, d47]
  | c :: r, cur => by
    by_cases q : c = 47
    · rw [splA, if_pos q]
      have e1 : d47 (c :: r) = c :: r := by simp [d47, q]
      have e2 : t47 (c :: r) = [] := by simp [t47, q]
      rw [e1, e2, if_neg (by simp)]; simp
    · have e1 : d47 (c :: r) = d47 r := by simp [d47, q]
      have e2 : t47 (c :: r) = c :: t47 r := by simp [t47, q]
      rw [splA, if_neg q, splA_cut r (cur ++ [c]), e1, e2]
      by_cases q1 : d47 r = []
      · rw [if_pos q1, if_pos q1]; simp
      · rw [if_neg q1, if_neg q1]; simp
theorem index47 : ∀ (r : List Int), (∀ x ∈ r, 0 ≤ x ∧ x < 256) → Lib.index (r.map fun n => UInt8.ofNat n.toNat) [47] = if d47 r = [] then -1 else ((t47 r).length : Int)
  | [], _ => rfl
  | c :: r, hr => by
    have hc := hr c (by simp)
    have ih := index47 r (fun x hx => hr x (by simp [hx]))
    have e := u8_eq hc.1 hc.2 47 (by omega)
    rw [List.map_cons, Lib.index]
    have c47 : (47 : UInt8) = UInt8.ofNat 47 := rfl
    simp only [List.isPrefixOf, Bool.and_true]
    rw [c47, e]
    by_cases q : c = ((47 : Nat) : Int)
    · have q' : c = 47 := q
      rw [decide_eq_true q, if_pos rfl, q']
      simp [d47, t47]
    · have q' : c ≠ 47 := q
      rw [decide_eq_false q, if_neg (by simp), ← c47, ih]
      have e1 : d47 (c :: r) = d47 r := by simp [d47, q']
      have e2 : t47 (c :: r) = c :: t47 r := by simp [t47, q']
      rw [e1, e2]
      by_cases q1 : d47 r = []
      · simp [q1]
      · rw [if_neg q1, if_neg q1]
        rw [if_neg (by simp only [beq_iff_eq]; omega)]
        simp
theorem data_bytes (s : ByteArray) : s.data.toList = (bytesOf s).map fun n => UInt8.ofNat n.toNat := by
  have h := congrArg (fun b : ByteArray => b.data.toList) (strOfNums_bytesOf s)
  simp only [strOfNums_data] at h
  exact h.symm
theorem splitB_parts : ∀ (n : Nat) (s : ByteArray), s.size ≤ n → Lib.splitB ⟨#[47]⟩ 0 (Lib.countB s ⟨#[47]⟩) s = parts (bytesOf s) := by
  intro n
  induction n with
  | zero =>
    intro s h
    have h0 : bytesOf s = [] := List.eq_nil_of_length_eq_zero (by rw [bytesOf_length]; omega)
    have hi : Lib.indexB s ⟨#[47]⟩ = -1 := by
      show Lib.index s.data.toList [47] = -1
      rw [data_bytes, h0]; rfl
    rw [Lib.splitB_miss _ _ _ _ hi]
    unfold parts
    rw [h0]
    have : s = strOfNums [] := by rw [← h0, strOfNums_bytesOf]
    rw [this]; rfl
  | succ n ih =>
    intro s h
    have hi : Lib.indexB s ⟨#[47]⟩ = if d47 (bytesOf s) = [] then -1 else ((t47 (bytesOf s)).length : Int) := by
      show Lib.index s.data.toList [47] = _
      rw [data_bytes, index47 _ (bytesOf_range s)]
    unfold parts
    rw [splA_cut]
    by_cases q : d47 (bytesOf s) = []
    · rw [if_pos q] at hi
      rw [Lib.splitB_miss _ _ _ _ hi, if_pos q]
      simp [strOfNums_bytesOf]
    · rw [if_neg q] at hi
      rw [if_neg q, Lib.countB_hit s ⟨#[47]⟩ _ (by decide) hi, Nat.add_comm, Lib.splitB_hit _ _ _ _ _ hi]
      have hl : (t47 (bytesOf s)).length + (d47 (bytesOf s)).length = s.size := by rw [← List.length_append, t47_d47, bytesOf_length]
      have hd : 0 < (d47 (bytesOf s)).length := List.length_pos_iff.2 q
      have e1 : bytesOf (s.extract ((t47 (bytesOf s)).length + (⟨#[47]⟩ : ByteArray).size) s.size) = (d47 (bytesOf s)).tail := by
        rw [bytesOf_extract, List.take_of_length_le (by rw [bytesOf_length]; exact Nat.le_refl _)]
        have h2 := @List.drop_left _ (t47 (bytesOf s)) (d47 (bytesOf s))
        rw [t47_d47] at h2
        show (bytesOf s).drop ((t47 (bytesOf s)).length + 1) = _
        rw [← List.drop_drop, h2, List.drop_one]
      have e2 : s.extract 0 ((t47 (bytesOf s)).length + 0) = strOfNums (t47 (bytesOf s)) := by
        apply bytesOf_inj
        have h2 := @List.take_left _ (t47 (bytesOf s)) (d47 (bytesOf s))
        rw [t47_d47] at h2
        rw [bytesOf_extract, Nat.add_zero, h2, List.drop_zero, bytesOf_strOfNums]
        intro x hx
        exact bytesOf_range s x (by rw [← t47_d47 (bytesOf s)]; exact List.mem_append_left _ hx)
      have hsz : (s.extract ((t47 (bytesOf s)).length + (⟨#[47]⟩ : ByteArray).size) s.size).size ≤ n := by
        rw [size_len, e1, List.length_tail]; omega
      rw [ih _ hsz, e1, e2]
      simp [parts]

/-- byte classes -/
def plainC (c : Int) : Bool := decide (32 ≤ c) && decide (c ≤ 126)
def smallC (c : Int) : Bool := decide (97 ≤ c) && decide (c ≤ 122)
def digitC (c : Int) : Bool := decide (48 ≤ c) && decide (c ≤ 57)
def largeC (c : Int) : Bool := decide (65 ≤ c) && decide (c ≤ 90)

theorem l1In_eq (c a b : Int) : spec_l1In.f c a b = some (decide (a ≤ c) && decide (c ≤ b)) := by
  unfold spec_l1In.f; split <;> simp [*] <;> omega

theorem l1Digit_eq (c : Int) (h : wrap64 c = c) : spec_l1Digit.f c = some (digitC c) := by
  unfold spec_l1Digit.f; rw [h, l1In_eq]; rfl

theorem isDigit_eq (c : Int) : impl_isDigit.f c = some (digitC c) := by
  unfold impl_isDigit.f digitC; split <;> simp [*] <;> omega

/-- a digit's worth to the base 16, or -1 -/
def hexC (c : Int) : Int := if digitC c = true then c - 48 else if 97 ≤ c ∧ c ≤ 102 then c - 87 else if 65 ≤ c ∧ c ≤ 70 then c - 55 else -1
theorem hexC_range (c : Int) : -1 ≤ hexC c ∧ hexC c < 16 := by
  unfold hexC digitC
  split
  · rename_i h; simp at h; omega
  · split
    · omega
    · split <;> omega
theorem digitOf_ev (c : Int) (h0 : 0 ≤ c) (h1 : c < 256) : Ev (fun k => impl_digitOf.f k c) (hexC c) := by
  have H : ∀ k, impl_digitOf.f (k + 1) c = some (hexC c) := by
    intro k
    simp only [impl_digitOf.f, isDigit_eq, Option.bind_some, impl_digitOf.j0, hexC]
    by_cases a1 : 48 ≤ c <;> by_cases a2 : c ≤ 57 <;> by_cases a3 : 97 ≤ c <;> by_cases a4 : c ≤ 102 <;> by_cases a5 : 65 ≤ c <;> by_cases a6 : c ≤ 70
    all_goals first | (exfalso; omega) | (simp [digitC, a1, a2, a3, a4, a5, a6, ge_iff_le]; done) | (simp [digitC, a1, a2, a3, a4, a5, a6, ge_iff_le]; omega)
  exact Ev.step H (Ev.now _)
theorem l1HexOf_eq (c : Int) (h0 : 0 ≤ c) (h1 : c < 256) : spec_l1HexOf.f c = some (hexC c) := by
  have hw : wrap64 c = c := wrap_id (by omega) (by omega)
  simp only [spec_l1HexOf.f, l1Digit_eq c hw, Option.bind_some, hw, l1In_eq, hexC]
  by_cases q : digitC c = true
  · rw [if_pos q, if_pos q, wrap_id (by omega) (by omega)]
  · rw [if_neg q, if_neg q]
    by_cases q1 : 97 ≤ c ∧ c ≤ 102
    · rw [if_pos (by simpa using q1), if_pos q1, wrap_id (x := c - 97) (by omega) (by omega), wrap_id (by omega) (by omega)]; congr 1; omega
    · rw [if_neg (by simpa using q1), if_neg q1]
      by_cases q2 : 65 ≤ c ∧ c ≤ 70
      · rw [if_pos (by simpa using q2), if_pos q2, wrap_id (x := c - 65) (by omega) (by omega), wrap_id (by omega) (by omega)]; congr 1; omega
      · rw [if_neg (by simpa using q2), if_neg q2]

/-- what stands for bytes quoted; none: it is not right -/
def unq : List Int → Option (List Int)
  | [] => some []
  | [c] => if c = 37 then none else some [c]
  | [c, a] => if c = 37 then none else (unq [a]).map (c :: ·)
  | c :: a :: b :: r => if c = 37 then (if hexC a < 0 ∨ hexC b < 0 then none else (unq r).map ((hexC a * 16 + hexC b) :: ·)) else (unq (a :: b :: r)).map (c :: ·)
def unqR (acc : List Int) : Option (List Int) → ByteArray × Bool
  | some o => (strOfNums (acc ++ o), true)
  | none => (⟨#[]⟩, false)
def unquote (s : ByteArray) : ByteArray × Bool := unqR [] (unq (bytesOf s))
theorem unq_plain (c : Int) (r : List Int) (h : c ≠ 37) : unq (c :: r) = (unq r).map (c :: ·) := by
  match r with
  | [] => simp only [unq, if_neg h, Option.map_some]
  | [a] => simp only [unq, if_neg h]
  | a :: b :: r => rw [unq, if_neg h]
theorem unq_short (r : List Int) (h : r.length < 2) : unq (37 :: r) = none := by
  match r, h with
  | [], _ => rfl
  | [_], _ => rfl
theorem unq_bad (a b : Int) (r : List Int) (h : hexC a < 0 ∨ hexC b < 0) : unq (37 :: a :: b :: r) = none := by rw [unq, if_pos rfl, if_pos h]
theorem unq_good (a b : Int) (r : List Int) (h : ¬ (hexC a < 0 ∨ hexC b < 0)) : unq (37 :: a :: b :: r) = (unq r).map ((hexC a * 16 + hexC b) :: ·) := by rw [unq, if_pos rfl, if_neg h]
theorem unqR_cons (acc : List Int) (c : Int) (o : Option (List Int)) : unqR acc (o.map (c :: ·)) = unqR (acc ++ [c]) o := by
  cases o <;> simp [unqR]
/-- Strong induction over the bytes that are left. -/
theorem drop_rec {s : ByteArray} {P : Nat → List Int → Prop} (H : ∀ i rest, (bytesOf s).drop i = rest → (∀ j rest', (bytesOf s).drop j = rest' → i < j → j ≤ s.size → P j rest') → P i rest) : ∀ i rest, (bytesOf s).drop i = rest → P i rest := by
  have key : ∀ n i rest, s.size - i ≤ n → (bytesOf s).drop i = rest → P i rest := by
    intro n
    induction n with
    | zero => intro i rest hn h; exact H i rest h (fun j rest' hj hlt hle => by omega)
    | succ n ih => intro i rest hn h; exact H i rest h (fun j rest' hj hlt hle => ih j rest' (by omega) hj)
  exact fun i rest h => key _ i rest (Nat.le_refl _) h
theorem impl_Unquote_l0 {s : ByteArray} (hs : s.size ≤ 140737488351232) : ∀ i rest, (bytesOf s).drop i = rest → ∀ acc : List Int, acc.length ≤ i → Ev (fun k => impl_Unquote.l0 k s acc (i : Int)) (unqR acc (unq rest)) := by
  refine drop_rec ?_
  intro i rest h ih acc ha
  match rest, h with
  | [], h =>
    have hi := size_drop h
    apply ev_succ; simp only [impl_Unquote.l0, if_neg (show ¬ (i : Int) < s.size by omega)]
    have : unqR acc (unq []) = (strOfNums acc, true) := by simp [unq, unqR]
    rw [this]; exact Ev.now _
  | c :: r, h =>
    obtain ⟨hb, hi, hd⟩ := bt_drop h
    have hw1 := wrap_nat hs hi
    have hw2 : wrap64 ((i : Int) + 2) = ((i + 2 : Nat) : Int) := by rw [wrap_id (by omega) (by omega)]; rfl
    apply ev_succ
    simp only [impl_Unquote.l0, if_pos (show (i : Int) < s.size by omega), if_pos (show (0 : Int) ≤ i by omega), hb, hw1, hw2, if_pos (show acc.length < 140737488355328 by omega)]
    refine ev_ite (fun q => ?_) (fun q => ?_)
    · subst q
      have hl : s.size = i + 1 + r.length := by have := congrArg List.length h; rw [List.length_drop, bytesOf_length] at this; simp at this; omega
      match r, hd, hl with
      | [], hd, hl =>
        rw [unq_short _ (by simp)]; simp at hl
        simp only [if_pos (show ((i + 2 : Nat) : Int) ≥ s.size by omega)]; exact Ev.now _
      | [_], hd, hl =>
        rw [unq_short _ (by simp)]; simp at hl
        simp only [if_pos (show ((i + 2 : Nat) : Int) ≥ s.size by omega)]; exact Ev.now _
      | a :: b :: r', hd, hl =>
        simp at hl
        have g1 : ¬ ((i + 2 : Nat) : Int) ≥ s.size := by omega
        have g2 : (0 : Int) ≤ ((i + 1 : Nat) : Int) := by omega
        have g3 : ((i + 1 : Nat) : Int) < s.size := by omega
        have g4 : (0 : Int) ≤ ((i + 2 : Nat) : Int) := by omega
        have g5 : ((i + 2 : Nat) : Int) < s.size := by omega
        have hw3 : wrap64 (((i + 2 : Nat) : Int) + 1) = ((i + 3 : Nat) : Int) := by rw [wrap_id (by omega) (by omega)]; rfl
        have g6 : acc.length < 140737488355328 := by omega
        have g7 : i + 3 ≤ s.size := by omega
        obtain ⟨hb1, hi1, hd1⟩ := bt_drop hd
        obtain ⟨hb2, hi2, hd2⟩ := bt_drop hd1
        have ra := bytesOf_range s a (List.mem_of_mem_drop (by rw [hd]; simp : a ∈ (bytesOf s).drop (i + 1)))
        have rb := bytesOf_range s b (List.mem_of_mem_drop (by rw [hd1]; simp : b ∈ (bytesOf s).drop (i + 1 + 1)))
        have xa := hexC_range a; have xb := hexC_range b
        have hb2' : bt s ((i + 2 : Nat) : Int) = b := hb2
        simp only [if_neg g1, if_pos g2, if_pos g3, if_pos g4, if_pos g5, hb1, hb2', hw3]
        refine Ev.bind (digitOf_ev a ra.1 ra.2) (Ev.bind (digitOf_ev b rb.1 rb.2) (ev_ite (fun q1 => ?_) (fun q1 => ev_ite (fun q2 => ?_) (fun q2 => ?_))))
        · rw [unq_bad _ _ _ (.inl q1)]; exact Ev.now _
        · rw [unq_bad _ _ _ (.inr q2)]; exact Ev.now _
        · rw [unq_good _ _ _ (fun hh => hh.elim q1 q2), unqR_cons]
          have e : (wrap64 (wrap64 (16 * hexC a) + hexC b)) % 256 = hexC a * 16 + hexC b := by
            clear hb hb1 hb2 hb2' hw1 hw2 hw3
            rw [wrap_id (x := 16 * hexC a) (by omega) (by omega), wrap_id (by omega) (by omega)]; omega
          rw [e]
          have hd3 : (bytesOf s).drop (i + 3) = r' := hd2
          have hz := ih (i + 3) r' hd3 (by clear hb hb1 hb2 hb2' hw1 hw2 hw3; omega) g7 (acc ++ [hexC a * 16 + hexC b]) (by clear hb hb1 hb2 hb2' hw1 hw2 hw3; rw [List.length_append]; simp; omega)
          exact hz
    · rw [unq_plain _ _ q, unqR_cons]
      exact ih (i + 1) r hd (by omega) (by omega) _ (by simp; omega)
theorem impl_Unquote_ev (s : ByteArray) (hs : s.size ≤ 140737488351232) : Ev (fun k => impl_Unquote.f k s) (unquote s) := impl_Unquote_l0 hs 0 _ rfl [] (by simp)
theorem spec_Unquote_l0 {s : ByteArray} (hs : s.size ≤ 140737488351232) : ∀ i rest, (bytesOf s).drop i = rest → ∀ acc : List Int, acc.length ≤ i → Ev (fun k => spec_Unquote.l0 k s acc (i : Int)) (unqR acc (unq rest)) := by
  refine drop_rec ?_
  intro i rest h ih acc ha
  match rest, h with
  | [], h =>
    have hi := size_drop h
    apply ev_succ; simp only [spec_Unquote.l0, if_neg (show ¬ (i : Int) < s.size by omega)]
    have : unqR acc (unq []) = (strOfNums acc, true) := by simp [unq, unqR]
    rw [this]; exact Ev.now _
  | c :: r, h =>
    obtain ⟨hb, hi, hd⟩ := bt_drop h
    have hw1 := wrap_nat hs hi
    have hw2 : wrap64 ((i : Int) + 2) = ((i + 2 : Nat) : Int) := by rw [wrap_id (by omega) (by omega)]; rfl
    have jt : ∀ (a : List Int) (x : Int), Ev (fun k => spec_Unquote.j1 k s a x true) ((⟨#[]⟩ : ByteArray), false) := by
      intro a x; apply ev_succ; simp only [spec_Unquote.j1, if_true]; exact Ev.now _
    apply ev_succ
    simp only [spec_Unquote.l0, if_pos (show (i : Int) < s.size by omega), if_pos (show (0 : Int) ≤ i by omega), hb, hw1, hw2, if_pos (show acc.length < 140737488355328 by omega)]
    refine ev_ite (fun q => ?_) (fun q => ?_)
    · subst q
      have hl : s.size = i + 1 + r.length := by have := congrArg List.length h; rw [List.length_drop, bytesOf_length] at this; simp at this; omega
      match r, hd, hl with
      | [], hd, hl =>
        rw [unq_short _ (by simp)]; simp at hl
        simp only [if_pos (show ((i + 2 : Nat) : Int) ≥ s.size by omega)]; exact jt _ _
      | [_], hd, hl =>
        rw [unq_short _ (by simp)]; simp at hl
        simp only [if_pos (show ((i + 2 : Nat) : Int) ≥ s.size by omega)]; exact jt _ _
      | a :: b :: r', hd, hl =>
        simp at hl
        have g1 : ¬ ((i + 2 : Nat) : Int) ≥ s.size := by omega
        have g2 : (0 : Int) ≤ ((i + 1 : Nat) : Int) := by omega
        have g3 : ((i + 1 : Nat) : Int) < s.size := by omega
        have g4 : (0 : Int) ≤ ((i + 2 : Nat) : Int) := by omega
        have g5 : ((i + 2 : Nat) : Int) < s.size := by omega
        have hw3 : wrap64 (((i + 2 : Nat) : Int) + 1) = ((i + 3 : Nat) : Int) := by rw [wrap_id (by omega) (by omega)]; rfl
        have g6 : acc.length < 140737488355328 := by omega
        have g7 : i + 3 ≤ s.size := by omega
        obtain ⟨hb1, hi1, hd1⟩ := bt_drop hd
        obtain ⟨hb2, hi2, hd2⟩ := bt_drop hd1
        have ra := bytesOf_range s a (List.mem_of_mem_drop (by rw [hd]; simp : a ∈ (bytesOf s).drop (i + 1)))
        have rb := bytesOf_range s b (List.mem_of_mem_drop (by rw [hd1]; simp : b ∈ (bytesOf s).drop (i + 1 + 1)))
        have xa := hexC_range a; have xb := hexC_range b
        have hb2' : bt s ((i + 2 : Nat) : Int) = b := hb2
        simp only [if_neg g1, if_pos g2, if_pos g3, if_pos g4, if_pos g5, hb1, hb2', l1HexOf_eq a ra.1 ra.2, l1HexOf_eq b rb.1 rb.2, Option.bind_some]
        refine ev_ite (fun q1 => ?_) (fun q1 => ?_)
        · rw [unq_bad _ _ _ (.inl q1)]; exact jt _ _
        · by_cases q2 : hexC b < 0
          · rw [unq_bad _ _ _ (.inr q2), decide_eq_true q2]; exact jt _ _
          · rw [unq_good _ _ _ (fun hh => hh.elim q1 q2), unqR_cons, decide_eq_false q2]
            have e : (wrap64 (wrap64 (hexC a * 16) + hexC b)) % 256 = hexC a * 16 + hexC b := by
              clear hb hb1 hb2 hb2' hw1 hw2 hw3
              rw [wrap_id (x := hexC a * 16) (by omega) (by omega), wrap_id (by omega) (by omega)]; omega
            apply ev_succ
            simp only [spec_Unquote.j1, if_neg (show ¬ false = true by simp), hw1, hw2, if_pos g2, if_pos g3, if_pos g4, if_pos g5, hb1, hb2', hw3, l1HexOf_eq a ra.1 ra.2, l1HexOf_eq b rb.1 rb.2, Option.bind_some, if_pos g6, e]
            have hd3 : (bytesOf s).drop (i + 3) = r' := hd2
            have hz := ih (i + 3) r' hd3 (by clear hb hb1 hb2 hb2' hw1 hw2 hw3; omega) g7 (acc ++ [hexC a * 16 + hexC b]) (by clear hb hb1 hb2 hb2' hw1 hw2 hw3; rw [List.length_append]; simp; omega)
            exact hz
    · rw [unq_plain _ _ q, unqR_cons]
      exact ih (i + 1) r hd (by omega) (by omega) _ (by simp; omega)
theorem spec_Unquote_ev (s : ByteArray) (hs : s.size ≤ 140737488351232) : Ev (fun k => spec_Unquote.f k s) (unquote s) := spec_Unquote_l0 hs 0 _ rfl [] (by simp)

theorem lit_iff (s : ByteArray) (l : List UInt8) : s.toList = l ↔ bytesOf s = l.map fun b => (b.toNat : Int) := by
  rw [Lib.toList_data]
  unfold bytesOf
  constructor
  · intro h; rw [h]
  · intro h; exact List.map_inj_right (fun x y hxy => UInt8.toNat_inj.mp (by omega)) |>.mp h
theorem indexByte_mem : ∀ (l : List UInt8) (c : UInt8), 0 ≤ Lib.indexByte l c ↔ c ∈ l
  | [], c => by simp [Lib.indexByte]
  | b :: l, c => by
    have ih := indexByte_mem l c
    have hg := Lib.indexByte_ge l c
    simp only [Lib.indexByte]
    by_cases h : b = c
    · subst h; simp
    · have h' : (b == c) = false := by simpa using h
      have h2 : ¬ c = b := fun e => h e.symm
      rw [h']
      simp only [Bool.false_eq_true, if_false, List.mem_cons, h2, false_or, ← ih]
      by_cases q : Lib.indexByte l c = -1
      · simp [q]
      · have : (Lib.indexByte l c == -1) = false := by simpa using q
        rw [this]; simp only [Bool.false_eq_true, if_false]; omega
theorem mem_bytes (s : ByteArray) (c : UInt8) : c ∈ s.data.toList ↔ (c.toNat : Int) ∈ bytesOf s := by
  unfold bytesOf
  rw [List.mem_map]
  constructor
  · intro h; exact ⟨c, h, rfl⟩
  · rintro ⟨d, hd, he⟩
    have : d = c := UInt8.toNat_inj.mp (by omega)
    rw [← this]; exact hd

theorem isPlain_eq (c : Int) : impl_isPlain.f c = some (plainC c) := by
  unfold impl_isPlain.f plainC; split <;> simp [*] <;> omega
def plainB (l : List Int) : Bool := l.all plainC
theorem impl_Plain_ev (s : ByteArray) (hs : s.size ≤ 140737488351232) : Ev (fun k => impl_Plain.f k s) (plainB (bytesOf s)) := by
  refine str_loop s (fun i k => impl_Plain.l0 k s (i : Int)) plainB ?_ ?_ hs 0
  · intro i hi
    apply ev_succ; simp only [impl_Plain.l0, if_neg (show ¬ (i : Int) < s.size by omega)]; exact Ev.now _
  · intro i c r h hb hi hw hw1 ih
    apply ev_succ
    simp only [impl_Plain.l0, if_pos (show (i : Int) < s.size by omega), if_pos (show (0 : Int) ≤ i by omega), hb, isPlain_eq, Option.bind_some, hw1]
    refine ev_ite (fun h => ?_) (fun h => ?_)
    · simpa [plainB, h] using ih
    · simpa [plainB, h] using Ev.now _
theorem spec_Plain_ev (s : ByteArray) (hs : s.size ≤ 140737488351232) : Ev (fun k => spec_Plain.f k s) (plainB (bytesOf s)) := by
  refine str_loop s (fun i k => spec_Plain.l0 k s (i : Int)) plainB ?_ ?_ hs 0
  · intro i hi
    apply ev_succ; simp only [spec_Plain.l0, if_neg (show ¬ (i : Int) < s.size by omega)]; exact Ev.now _
  · intro i c r h hb hi hw hw1 ih
    apply ev_succ
    simp only [spec_Plain.l0, if_pos (show (i : Int) < s.size by omega), if_pos (show (0 : Int) ≤ i by omega), hb, hw, l1In_eq, Option.bind_some, hw1]
    refine ev_ite (fun h => ?_) (fun h => ?_)
    · have : plainC c = true := h
      simpa [plainB, this] using ih
    · have : plainC c = false := by simpa [plainC] using h
      simpa [plainB, this] using Ev.now _

theorem in_eq (c a b : Int) : impl_in.f c a b = some (decide (a ≤ c) && decide (c ≤ b)) := by
  unfold impl_in.f; split <;> simp [*] <;> omega

def lenB (s : ByteArray) (a b : Int) : Bool := decide (a ≤ (s.size : Int)) && decide ((s.size : Int) ≤ b)

theorem dots1 (s : ByteArray) : s.toList = ([46] : List UInt8) ↔ bytesOf s = [46] := lit_iff s [46]
theorem dots2 (s : ByteArray) : s.toList = ([46, 46] : List UInt8) ↔ bytesOf s = [46, 46] := lit_iff s [46, 46]
/-- a name -/
noncomputable def nameOk (s : ByteArray) : Bool := lenB s 1 8 && (plainB (bytesOf s) && (!decb ((47 : Int) ∈ bytesOf s) && (!decb (bytesOf s = [46]) && !decb (bytesOf s = [46, 46]))))
theorem impl_NameOk_ev (s : ByteArray) (hs : s.size ≤ 140737488351232) : Ev (fun k => impl_NameOk.f k s) (nameOk s) := by
  unfold impl_NameOk.f nameOk
  simp only [in_eq, Option.bind_some]
  refine ev_iteB (fun q => ?_) (fun q => ?_)
  · rw [show lenB s 1 8 = true from q, Bool.true_and]
    refine Ev.bind (impl_Plain_ev s hs) (ev_iteB (fun q1 => ?_) (fun q1 => ?_))
    · rw [q1, Bool.true_and]
      have e0 : strings_Contains.f s (⟨#[47]⟩ : ByteArray) = some (decide (0 ≤ Lib.indexByte s.data.toList 47)) := rfl
      have e1 : (0 ≤ Lib.indexByte s.data.toList 47) ↔ (47 : Int) ∈ bytesOf s := (indexByte_mem _ _).trans (mem_bytes s 47)
      simp only [e0, Option.bind_some]
      refine ev_iteB (fun q2 => ?_) (fun q2 => ?_)
      · rw [decb_true (e1.mp (of_decide_eq_true q2))]; exact Ev.now _
      · rw [decb_false (fun h => of_decide_eq_false q2 (e1.mpr h)), Bool.not_false, Bool.true_and]
        refine ev_ite (fun q3 => ?_) (fun q3 => ?_)
        · rw [decb_true ((dots1 s).mp q3)]; exact Ev.now _
        · rw [decb_false (fun h => q3 ((dots1 s).mpr h)), Bool.not_false, Bool.true_and]
          have : (s.toList != ([46, 46] : List UInt8)) = !decb (bytesOf s = [46, 46]) := by
            by_cases h : s.toList = [46, 46]
            · rw [decb_true ((dots2 s).mp h), h]; rfl
            · rw [decb_false (fun h2 => h ((dots2 s).mpr h2))]; simpa using h
          rw [this]; exact Ev.now _
    · rw [q1, Bool.false_and]; exact Ev.now _
  · rw [show lenB s 1 8 = false from q, Bool.false_and]; exact Ev.now _
theorem spec_NameOk_ev (s : ByteArray) (hs : s.size ≤ 140737488351232) : Ev (fun k => spec_NameOk.f k s) (nameOk s) := by
  have H := str_loop_st s (fun i (_ : Unit) k => spec_NameOk.l0 k s (i : Int)) (fun i _ r => !decb ((47 : Int) ∈ r) && (lenB s 1 8 && (plainB (bytesOf s) && (!decb (bytesOf s = [46]) && !decb (bytesOf s = [46, 46]))))) (fun _ _ _ => True) ?_ ?_ hs 0 () trivial
  · have e : nameOk s = (!decb ((47 : Int) ∈ bytesOf s) && (lenB s 1 8 && (plainB (bytesOf s) && (!decb (bytesOf s = [46]) && !decb (bytesOf s = [46, 46]))))) := by
      unfold nameOk
      cases lenB s 1 8 <;> cases plainB (bytesOf s) <;> cases decb ((47 : Int) ∈ bytesOf s) <;> simp
    rw [e]; exact H
  · intro i _ _ hi
    rw [decb_false (by simp), Bool.not_false, Bool.true_and]
    apply ev_succ
    simp only [spec_NameOk.l0, if_neg (show ¬ (i : Int) < s.size by omega), l1In_eq, Option.bind_some]
    refine ev_iteB (fun q => ?_) (fun q => ?_)
    · rw [show lenB s 1 8 = true from q, Bool.true_and]
      refine Ev.bind (spec_Plain_ev s hs) (ev_iteB (fun q1 => ?_) (fun q1 => ?_))
      · rw [q1, Bool.true_and]
        refine ev_ite (fun q3 => ?_) (fun q3 => ?_)
        · rw [decb_true ((dots1 s).mp q3)]; exact Ev.now _
        · rw [decb_false (fun h => q3 ((dots1 s).mpr h)), Bool.not_false, Bool.true_and]
          have : (s.toList != ([46, 46] : List UInt8)) = !decb (bytesOf s = [46, 46]) := by
            by_cases h : s.toList = [46, 46]
            · rw [decb_true ((dots2 s).mp h), h]; rfl
            · rw [decb_false (fun h2 => h ((dots2 s).mpr h2))]; simpa using h
          rw [this]; exact Ev.now _
      · rw [q1, Bool.false_and]; exact Ev.now _
    · rw [show lenB s 1 8 = false from q, Bool.false_and]; exact Ev.now _
  · intro i _ c r _ h hb hi hw hw1 ih
    apply ev_succ
    simp only [spec_NameOk.l0, if_pos (show (i : Int) < s.size by omega), if_pos (show (0 : Int) ≤ i by omega), hb, hw1]
    refine ev_ite (fun q => ?_) (fun q => ?_)
    · subst q; rw [decb_true (by simp), Bool.not_true, Bool.false_and]; exact Ev.now _
    · have e : decb ((47 : Int) ∈ c :: r) = decb ((47 : Int) ∈ r) := by
        rw [Bool.eq_iff_iff, decb_iff, decb_iff, List.mem_cons]
        exact ⟨fun h => h.elim (fun e => absurd e.symm q) id, .inr⟩
      rw [e]; exact ih () trivial

/-- a path -/
noncomputable def pathOk (p : List ByteArray) : Bool := p.all nameOk && decide ((p.length : Int) ≤ 4)
theorem impl_PathOk_ev (p : List ByteArray) (hl : p.length ≤ 9223372036854775806) (hp : ∀ x ∈ p, x.size ≤ 140737488351232) : Ev (fun k => impl_PathOk.f k p) (pathOk p) := by
  refine list_loop_st p hl (fun i (_ : Unit) k => impl_PathOk.l0 k p p (p.length : Int) (i : Int)) (fun _ _ r => r.all nameOk && decide ((p.length : Int) ≤ 4)) (fun _ _ r => ∀ x ∈ r, x.size ≤ 140737488351232) ?_ ?_ 0 () hp
  · intro i _ _ hi
    apply ev_succ; simp only [impl_PathOk.l0, if_neg (show ¬ (i : Int) < p.length by omega)]; exact Ev.now _
  · intro i _ c r hr h hb hi hw1 ih
    have hbb : rdOf ByteArray.empty p (i : Int) = c := hb _
    apply ev_succ
    simp only [impl_PathOk.l0, if_pos (show (i : Int) < p.length by omega), if_pos (show (0 : Int) ≤ i by omega), hbb, hw1]
    refine Ev.bind (impl_NameOk_ev c (hr c (by simp))) (ev_iteB (fun q => ?_) (fun q => ?_))
    · rw [List.all_cons, q, Bool.true_and]; exact ih () (fun x hx => hr x (by simp [hx]))
    · rw [List.all_cons, q, Bool.false_and, Bool.false_and]; exact Ev.now _
theorem spec_PathOk_ev (p : List ByteArray) (hl : p.length ≤ 9223372036854775806) (hp : ∀ x ∈ p, x.size ≤ 140737488351232) : Ev (fun k => spec_PathOk.f k p) (pathOk p) := by
  refine list_loop_st p hl (fun i (_ : Unit) k => spec_PathOk.l0 k p (i : Int)) (fun _ _ r => r.all nameOk && decide ((p.length : Int) ≤ 4)) (fun _ _ r => ∀ x ∈ r, x.size ≤ 140737488351232) ?_ ?_ 0 () hp
  · intro i _ _ hi
    apply ev_succ; simp only [spec_PathOk.l0, if_neg (show ¬ (i : Int) < p.length by omega)]; exact Ev.now _
  · intro i _ c r hr h hb hi hw1 ih
    have hbb : rdOf ByteArray.empty p (i : Int) = c := hb _
    apply ev_succ
    simp only [spec_PathOk.l0, if_pos (show (i : Int) < p.length by omega), if_pos (show (0 : Int) ≤ i by omega), hbb, hw1]
    refine Ev.bind (spec_NameOk_ev c (hr c (by simp))) (ev_iteB (fun q => ?_) (fun q => ?_))
    · rw [List.all_cons, q, Bool.true_and]; exact ih () (fun x hx => hr x (by simp [hx]))
    · rw [List.all_cons, q, Bool.false_and, Bool.false_and]; exact Ev.now _

theorem unq_len : ∀ (n : Nat) (l r : List Int), l.length ≤ n → unq l = some r → r.length ≤ l.length ∧ (r = [] → l = [])
  | 0, l, r, h, e => by
    have : l = [] := List.eq_nil_of_length_eq_zero (by omega)
    subst this
    simp [unq] at e
    subst e; simp
  | n + 1, l, r, h, e => by
    match l with
    | [] => simp [unq] at e; subst e; simp
    | c :: t =>
      by_cases q : c = 37
      · subst q
        match t with
        | [] => rw [unq_short _ (by simp)] at e; cases e
        | [a] => rw [unq_short _ (by simp)] at e; cases e
        | a :: b :: u =>
          by_cases q1 : hexC a < 0 ∨ hexC b < 0
          · rw [unq_bad a b u q1] at e; cases e
          · rw [unq_good a b u q1] at e
            obtain ⟨r', h1, h2⟩ := Option.map_eq_some_iff.1 e
            have := unq_len n u r' (by simp at h; omega) h1
            subst h2
            simp; omega
      · rw [unq_plain c t q] at e
        obtain ⟨r', h1, h2⟩ := Option.map_eq_some_iff.1 e
        have := unq_len n t r' (by simp at h; omega) h1
        subst h2
        simp; omega
theorem unquote_len (s : ByteArray) : (unquote s).1.size ≤ s.size := by
  unfold unquote
  cases h : unq (bytesOf s) with
  | none => exact Nat.zero_le _
  | some r =>
    have := unq_len _ _ r (Nat.le_refl _) h
    rw [bytesOf_length] at this
    simp only [unqR, List.nil_append, strOfNums_size]
    exact this.1
theorem unquote_nil (s : ByteArray) (h : (unquote s).2 = true) (h0 : (unquote s).1.toList = ([] : List UInt8)) : s.toList = ([] : List UInt8) := by
  unfold unquote at h h0
  cases hq : unq (bytesOf s) with
  | none => rw [hq] at h; simp [unqR] at h
  | some r =>
    rw [hq] at h0
    simp only [unqR, List.nil_append] at h0
    rw [Lib.toList_data, strOfNums_data] at h0
    have hr : r = [] := by simpa using h0
    have := (unq_len _ _ r (Nat.le_refl _) hq).2 hr
    rw [Lib.toList_data, data_bytes, this]; rfl
/-- the names of a path, part by part; none: it is no path -/
noncomputable def goI : List ByteArray → List ByteArray → Option (List ByteArray)
  | out, [] => some out
  | out, p :: ps => if (unquote p).2 = true then (if (unquote p).1.toList = ([] : List UInt8) then none else if (unquote p).1.toList = ([46, 46] : List UInt8) then (if out.length = 0 then none else goI (out.take (out.length - 1)) ps) else if (unquote p).1.toList = ([46] : List UInt8) then goI out ps else goI (out ++ [(unquote p).1]) ps) else none
noncomputable def pres : Option (List ByteArray) → List ByteArray × Bool
  | none => ([], false)
  | some out => if pathOk out = true then (out, true) else ([], false)
theorem impl_ParsePath_l0 (l : List ByteArray) (hl : l.length ≤ 1048577) (hp : ∀ x ∈ l, x.size ≤ 1048576) : Ev (fun k => impl_ParsePath.l0 k [] l (l.length : Int) 0) (pres (goI [] l)) := by
  have key := list_loop_st l (by omega) (fun i (out : List ByteArray) k => impl_ParsePath.l0 k out l (l.length : Int) (i : Int)) (fun _ out r => pres (goI out r)) (fun i out r => out.length ≤ i ∧ (∀ x ∈ out, x.size ≤ 1048576) ∧ (∀ x ∈ r, x.size ≤ 1048576) ∧ i + r.length = l.length) ?_ ?_ 0 [] ⟨by simp, by simp, hp, by simp⟩
  · simpa using key
  · intro i out ⟨h1, h2, _, h4⟩ hi
    rw [List.length_nil] at h4
    have a1 : ¬ (i : Int) < (l.length : Int) := by omega
    apply ev_succ
    simp only [impl_ParsePath.l0, if_neg a1]
    refine Ev.bind (impl_PathOk_ev out (by omega) (fun x hx => by have := h2 x hx; omega)) ?_
    simp only [goI, pres]
    exact ev_iteB (fun q => by rw [if_pos q]; exact Ev.now _) (fun q => by rw [if_neg (by simp [q])]; exact Ev.now _)
  · intro i out c r ⟨h1, h2, h3, h4⟩ h hb hi hw1 ih
    rw [List.length_cons] at h4
    have h5 : i + 1 + r.length = l.length := by omega
    have hbb : rdOf ByteArray.empty l (i : Int) = c := hb _
    have a1 : (i : Int) < (l.length : Int) := by omega
    have a2 : (0 : Int) ≤ (i : Int) := by omega
    have hcs : c.size ≤ 1048576 := h3 c (by simp)
    have hr : ∀ x ∈ r, x.size ≤ 1048576 := fun x hx => h3 x (by simp [hx])
    have hus := unquote_len c
    have hu : (unquote c).1.size ≤ 1048576 := Nat.le_trans hus hcs
    have bad : ∀ x : ByteArray, Ev (fun k => impl_ParsePath.j2 k out l x (l.length : Int) (i : Int) true) (([] : List ByteArray), false) := by
      intro x; apply ev_succ; simp only [impl_ParsePath.j2, if_true]; exact Ev.now _
    apply ev_succ
    simp only [impl_ParsePath.l0, if_pos a1, if_pos a2, hbb]
    refine Ev.bind (impl_Unquote_ev c (by omega)) ?_
    simp only [goI]
    refine ev_iteB (fun q => ?_) (fun q => ?_)
    · rw [if_pos q]
      refine ev_ite (fun q1 => ?_) (fun q1 => ?_)
      · rw [if_pos q1]; exact bad _
      · rw [if_neg q1]
        refine ev_ite (fun q2 => ?_) (fun q2 => ?_)
        · rw [if_pos q2]
          by_cases q3 : out.length = 0
          · rw [if_pos q3, show ((out.length : Int) == 0) = true by simp [q3]]
            exact bad _
          · rw [if_neg q3, show ((out.length : Int) == 0) = false by simp [q3]]
            have hw : wrap64 ((out.length : Int) - 1) = ((out.length - 1 : Nat) : Int) := by rw [wrap_id (by omega) (by omega)]; omega
            have b1 : (0 : Int) ≤ ((out.length - 1 : Nat) : Int) := by omega
            have b2 : ((out.length - 1 : Nat) : Int) ≤ (out.length : Int) := by omega
            apply ev_succ
            simp only [impl_ParsePath.j2, Bool.false_eq_true, if_false, if_pos q2, hw, if_pos b1, if_pos b2, hw1, Int.toNat_natCast]
            exact ih (out.take (out.length - 1)) ⟨by rw [List.length_take]; omega, fun x hx => h2 x (List.mem_of_mem_take hx), hr, h5⟩
        · rw [if_neg q2]
          apply ev_succ
          simp only [impl_ParsePath.j2, Bool.false_eq_true, if_false, if_neg q2, hw1]
          refine ev_ite (fun q4 => ?_) (fun q4 => ?_)
          · rw [if_pos q4]
            exact ih out ⟨by omega, h2, hr, h5⟩
          · rw [if_neg q4]
            have b3 : out.length < 8796093022208 := by omega
            simp only [if_pos b3]
            exact ih (out ++ [(unquote c).1]) ⟨by simp; omega, fun x hx => by
              rcases List.mem_append.1 hx with hx | hx
              · exact h2 x hx
              · simp at hx; rw [hx]; exact hu, hr, h5⟩
    · rw [if_neg (by simp [q])]
      exact bad _

/-- the names of a path, as the reference takes them -/
noncomputable def goS : List ByteArray → List ByteArray → Option (List ByteArray)
  | out, [] => some out
  | out, p :: ps => if (unquote p).2 = true then (if (unquote p).1.toList = ([] : List UInt8) then (if ps ≠ [] then none else goS out ps) else if (unquote p).1.toList = ([46, 46] : List UInt8) then (if out.length = 0 then none else goS (out.take (out.length - 1)) ps) else if (unquote p).1.toList = ([46] : List UInt8) then goS out ps else goS (out ++ [(unquote p).1]) ps) else none
theorem spec_ParsePath_l0 (l : List ByteArray) (hl : l.length ≤ 1048577) (hp : ∀ x ∈ l, x.size ≤ 1048576) : Ev (fun k => spec_ParsePath.l0 k [] l 0) (pres (goS [] l)) := by
  have key := list_loop_st l (by omega) (fun i (out : List ByteArray) k => spec_ParsePath.l0 k out l (i : Int)) (fun _ out r => pres (goS out r)) (fun i out r => out.length ≤ i ∧ (∀ x ∈ out, x.size ≤ 1048576) ∧ (∀ x ∈ r, x.size ≤ 1048576) ∧ i + r.length = l.length) ?_ ?_ 0 [] ⟨by simp, by simp, hp, by simp⟩
  · simpa using key
  · intro i out ⟨h1, h2, _, h4⟩ hi
    rw [List.length_nil] at h4
    have a1 : ¬ (i : Int) < (l.length : Int) := by omega
    apply ev_succ
    simp only [spec_ParsePath.l0, if_neg a1]
    refine Ev.bind (spec_PathOk_ev out (by omega) (fun x hx => by have := h2 x hx; omega)) ?_
    simp only [goS, pres]
    exact ev_iteB (fun q => by rw [if_pos q]; exact Ev.now _) (fun q => by rw [if_neg (by simp [q])]; exact Ev.now _)
  · intro i out c r ⟨h1, h2, h3, h4⟩ h hb hi hw1 ih
    rw [List.length_cons] at h4
    have h5 : i + 1 + r.length = l.length := by omega
    have hbb : rdOf ByteArray.empty l (i : Int) = c := hb _
    have a1 : (i : Int) < (l.length : Int) := by omega
    have a2 : (0 : Int) ≤ (i : Int) := by omega
    have hwl : wrap64 ((l.length : Int) - 1) = ((l.length - 1 : Nat) : Int) := by rw [wrap_id (by omega) (by omega)]; omega
    have hcs : c.size ≤ 1048576 := h3 c (by simp)
    have hr : ∀ x ∈ r, x.size ≤ 1048576 := fun x hx => h3 x (by simp [hx])
    have hus := unquote_len c
    have hu : (unquote c).1.size ≤ 1048576 := Nat.le_trans hus hcs
    have bad : ∀ x : ByteArray, Ev (fun k => spec_ParsePath.j2 k out l (i : Int) x true) (([] : List ByteArray), false) := by
      intro x; apply ev_succ; simp only [spec_ParsePath.j2, if_true]; exact Ev.now _
    apply ev_succ
    simp only [spec_ParsePath.l0, if_pos a1, if_pos a2, hbb, hwl]
    refine Ev.bind (spec_Unquote_ev c (by omega)) ?_
    simp only [goS]
    refine ev_iteB (fun q => ?_) (fun q => ?_)
    · rw [if_pos q]
      refine ev_ite (fun q1 => ?_) (fun q1 => ?_)
      · rw [if_pos q1]
        refine ev_ite (fun q2 => ?_) (fun q2 => ?_)
        · have : r ≠ [] := by intro e; rw [e] at h5; simp at h5; omega
          rw [if_pos this]; exact bad _
        · have : r = [] := List.eq_nil_of_length_eq_zero (by omega)
          have q3 : ¬ (unquote c).1.toList = ([46, 46] : List UInt8) := by rw [q1]; simp
          simp only [if_neg q3]
          rw [if_neg (by simp [this])]
          apply ev_succ
          simp only [spec_ParsePath.j2, Bool.false_eq_true, if_false, if_pos q1]
          apply ev_succ
          simp only [spec_ParsePath.j3, if_true, hw1]
          exact ih out ⟨by omega, h2, hr, h5⟩
      · rw [if_neg q1]
        refine ev_ite (fun q2 => ?_) (fun q2 => ?_)
        · rw [if_pos q2]
          by_cases q3 : out.length = 0
          · rw [if_pos q3, show ((out.length : Int) == 0) = true by simp [q3]]
            exact bad _
          · rw [if_neg q3, show ((out.length : Int) == 0) = false by simp [q3]]
            have hw : wrap64 ((out.length : Int) - 1) = ((out.length - 1 : Nat) : Int) := by rw [wrap_id (by omega) (by omega)]; omega
            have b1 : (0 : Int) ≤ ((out.length - 1 : Nat) : Int) := by omega
            have b2 : ((out.length - 1 : Nat) : Int) ≤ (out.length : Int) := by omega
            have q4 : ((unquote c).1.toList == ([46] : List UInt8)) = false := by rw [q2]; rfl
            apply ev_succ
            simp only [spec_ParsePath.j2, Bool.false_eq_true, if_false, if_neg q1, q4]
            apply ev_succ
            simp only [spec_ParsePath.j3, Bool.false_eq_true, if_false, if_pos q2, hw, if_pos b1, if_pos b2, hw1, Int.toNat_natCast]
            exact ih (out.take (out.length - 1)) ⟨by rw [List.length_take]; omega, fun x hx => h2 x (List.mem_of_mem_take hx), hr, h5⟩
        · rw [if_neg q2]
          apply ev_succ
          simp only [spec_ParsePath.j2, Bool.false_eq_true, if_false, if_neg q1]
          apply ev_succ
          by_cases q4 : (unquote c).1.toList = ([46] : List UInt8)
          · rw [if_pos q4]
            simp only [q4, spec_ParsePath.j3, beq_self_eq_true, if_true, hw1]
            exact ih out ⟨by omega, h2, hr, h5⟩
          · rw [if_neg q4]
            have b3 : out.length < 8796093022208 := by omega
            simp only [beq_eq_false_iff_ne.2 q4, spec_ParsePath.j3, Bool.false_eq_true, if_false, if_neg q2, if_pos b3, hw1]
            exact ih (out ++ [(unquote c).1]) ⟨by simp; omega, fun x hx => by
              rcases List.mem_append.1 hx with hx | hx
              · exact h2 x hx
              · simp at hx; rw [hx]; exact hu, hr, h5⟩
    · rw [if_neg (by simp [q])]
      exact bad _

/-- the parts without an empty last one -/
noncomputable def trimP : List ByteArray → List ByteArray
  | [] => []
  | [p] => if p.toList = ([] : List UInt8) then [] else [p]
  | p :: q :: r => p :: trimP (q :: r)
theorem unquote_empty (p : ByteArray) (h : p.toList = ([] : List UInt8)) : unquote p = (⟨#[]⟩, true) := by
  have h0 : bytesOf p = [] := by
    rw [Lib.toList_data, data_bytes] at h
    simpa using h
  unfold unquote
  rw [h0]; rfl
theorem goS_goI : ∀ (ps out : List ByteArray), goS out ps = goI out (trimP ps)
  | [], out => rfl
  | [p], out => by
    by_cases h : p.toList = ([] : List UInt8)
    · simp only [trimP, if_pos h, goS, goI, unquote_empty p h]
      simp
    · have hn : (unquote p).2 = true → ¬ (unquote p).1.toList = ([] : List UInt8) := fun h1 h2 => h (unquote_nil p h1 h2)
      simp only [trimP, if_neg h, goS, goI]
      by_cases q : (unquote p).2 = true
      · simp only [if_pos q, if_neg (hn q)]
      · simp only [if_neg q]
  | p :: q :: r, out => by
    rw [trimP]
    simp only [goS, goI]
    have ih := fun o => goS_goI (q :: r) o
    simp only [goS] at ih
    by_cases h : (unquote p).2 = true
    · simp only [if_pos h, ne_eq, reduceCtorEq, not_false_eq_true, if_true, ih]
    · simp only [if_neg h]

theorem trimP_eq : ∀ (l : List ByteArray) (h : l ≠ []), trimP l = if (l.getLast h).toList = ([] : List UInt8) then l.take (l.length - 1) else l
  | [p], _ => by simp [trimP]
  | p :: q :: r, hx => by
    have e : (p :: q :: r).getLast hx = (q :: r).getLast (by simp) := List.getLast_cons_cons
    rw [trimP, trimP_eq (q :: r) (by simp)]
    by_cases h : ((p :: q :: r).getLast hx).toList = ([] : List UInt8)
    · rw [if_pos h, if_pos (e ▸ h)]; simp
    · rw [if_neg h, if_neg (e ▸ h)]
theorem rdOf_last (l : List ByteArray) (h : l ≠ []) : rdOf ByteArray.empty l ((l.length - 1 : Nat) : Int) = l.getLast h := by
  have h0 : l.length - 1 < l.length := by have := List.length_pos_iff.2 h; omega
  show l.getD ((l.length - 1 : Nat) : Int).toNat ByteArray.empty = _
  rw [Int.toNat_natCast, List.getLast_eq_getElem, List.getD, List.getElem?_eq_getElem h0]; rfl

theorem first_byte {s : ByteArray} (h : 0 < s.size) : ∃ c r, bytesOf s = c :: r ∧ bt s 0 = c ∧ 0 ≤ c ∧ c < 256 := by
  match hm : bytesOf s with
  | [] =>
    have := congrArg List.length hm
    rw [bytesOf_length, List.length_nil] at this
    omega
  | c :: r =>
    have hd : (bytesOf s).drop 0 = c :: r := hm
    have hr := bytesOf_range s c (by rw [hm]; simp)
    exact ⟨c, r, rfl, (bt_drop hd).1, hr.1, hr.2⟩
theorem hasPrefix47 (s : ByteArray) : strings_HasPrefix.f s (⟨#[47]⟩ : ByteArray) = some (decide (0 < s.size ∧ bt s 0 = 47)) := by
  unfold strings_HasPrefix.f
  congr 1
  rw [data_bytes s]
  rcases Nat.eq_zero_or_pos s.size with h | h
  · have h0 : bytesOf s = [] := List.eq_nil_of_length_eq_zero (by rw [bytesOf_length]; exact h)
    rw [h0, decide_eq_false (by omega)]; rfl
  · obtain ⟨c, r, h1, h2, h3, h4⟩ := first_byte h
    rw [h1, h2]
    show ((47 : UInt8) == UInt8.ofNat c.toNat && List.isPrefixOf [] (r.map fun n => UInt8.ofNat n.toNat)) = _
    rw [show ((47 : UInt8) == UInt8.ofNat c.toNat) = decide (c = (47 : Nat)) from u8_eq h3 h4 47 (by omega)]
    rw [show List.isPrefixOf [] (r.map fun n => UInt8.ofNat n.toNat) = true by cases r <;> rfl, Bool.and_true]
    exact decide_eq_decide.2 ⟨fun e => ⟨h, e⟩, fun e => e.2⟩
theorem splA_ne : ∀ (l cur : List Int), splA cur l ≠ []
  | [], cur => by simp [splA]
  | c :: r, cur => by
    unfold splA
    split
    · simp
    · exact splA_ne r _
theorem splA_len : ∀ (l cur : List Int), (splA cur l).length ≤ l.length + 1
  | [], cur => by simp [splA]
  | c :: r, cur => by
    unfold splA
    split
    · have := splA_len r []; simp; omega
    · have := splA_len r (cur ++ [c]); simp; omega
theorem splA_part : ∀ (l cur : List Int), ∀ x ∈ splA cur l, x.length ≤ cur.length + l.length
  | [], cur, x, h => by simp [splA] at h; subst h; simp
  | c :: r, cur, x, h => by
    unfold splA at h
    split at h
    · rcases List.mem_cons.1 h with rfl | h
      · omega
      · have := splA_part r [] x h; simp at this ⊢; omega
    · have := splA_part r (cur ++ [c]) x h; simp at this ⊢; omega
theorem strOfNums_size (l : List Int) : (strOfNums l).size = l.length := by
  show (strOfNums l).data.size = _
  rw [← Array.length_toList, strOfNums_data, List.length_map]
theorem parts_ne (l : List Int) : parts l ≠ [] := by
  unfold parts
  simpa using splA_ne l []
theorem parts_len (l : List Int) : (parts l).length ≤ l.length + 1 := by
  unfold parts
  rw [List.length_map]; exact splA_len l []
theorem parts_size (l : List Int) : ∀ x ∈ parts l, x.size ≤ l.length := by
  intro x hx
  unfold parts at hx
  obtain ⟨y, hy, rfl⟩ := List.mem_map.1 hx
  have := splA_part l [] y hy
  rw [strOfNums_size]; simpa using this
noncomputable def pathV (s : ByteArray) : List ByteArray × Bool := if 0 < s.size ∧ bt s 0 = 47 then pres (goI [] (trimP (parts (bytesOf (s.extract 1 s.size))))) else ([], false)
theorem ex1_size (s : ByteArray) (h : s.size ≤ 1048576) : (s.extract 1 s.size).size ≤ 1048576 := by
  rw [ByteArray.size_extract]; omega
theorem impl_ParsePath_ev (s : ByteArray) (hs : s.size ≤ 1048576) : Ev (fun k => impl_ParsePath.f k s) (pathV s) := by
  have h1 := ex1_size s hs
  unfold impl_ParsePath.f pathV
  simp only [hasPrefix47, Option.bind_some]
  refine ev_iteB (fun q => ?_) (fun q => ?_)
  · rw [decide_eq_true_iff] at q
    rw [if_pos q]
    refine ev_ite (fun _ => ?_) (fun q1 => absurd (by omega) q1)
    have hsp : strings_Split.f (s.extract 1 s.size) (⟨#[47]⟩ : ByteArray) = some (parts (bytesOf (s.extract 1 s.size))) := by
      unfold strings_Split.f
      rw [if_pos ⟨by omega, by decide⟩, splitB_parts _ _ (Nat.le_refl _)]
    simp only [hsp, Option.bind_some]
    have hp0 := parts_ne (bytesOf (s.extract 1 s.size))
    have hp1 := parts_len (bytesOf (s.extract 1 s.size))
    have hp2 := parts_size (bytesOf (s.extract 1 s.size))
    rw [← size_len] at hp1 hp2
    generalize parts (bytesOf (s.extract 1 s.size)) = P at hp0 hp1 hp2
    have hP := List.length_pos_iff.2 hp0
    have hw : wrap64 ((P.length : Int) - 1) = ((P.length - 1 : Nat) : Int) := by rw [wrap_id (by omega) (by omega)]; omega
    simp only [hw, rdOf_last P hp0, Int.toNat_natCast]
    rw [trimP_eq P hp0]
    refine ev_ite (fun _ => ?_) (fun q1 => absurd (by omega) q1)
    refine ev_ite (fun _ => ?_) (fun q1 => absurd (by omega) q1)
    refine ev_ite (fun q2 => ?_) (fun q2 => ?_)
    · rw [if_pos q2]
      refine ev_ite (fun _ => ?_) (fun q1 => absurd (by omega) q1)
      apply ev_succ; simp only [impl_ParsePath.j0]
      exact impl_ParsePath_l0 _ (by rw [List.length_take]; omega) (fun x hx => Nat.le_trans (hp2 x (List.mem_of_mem_take hx)) h1)
    · rw [if_neg q2]
      apply ev_succ; simp only [impl_ParsePath.j0]
      exact impl_ParsePath_l0 _ (by omega) (fun x hx => Nat.le_trans (hp2 x hx) h1)
  · rw [decide_eq_false_iff_not] at q
    rw [if_neg q]; exact Ev.now _
theorem spec_ParsePath_ev (s : ByteArray) (hs : s.size ≤ 1048576) : Ev (fun k => spec_ParsePath.f k s) (pathV s) := by
  have h1 := ex1_size s hs
  unfold spec_ParsePath.f pathV
  simp only [Option.bind_some]
  refine ev_ite (fun q => ?_) (fun q => ?_)
  · rw [if_neg (by omega)]
    apply ev_succ; simp only [spec_ParsePath.j0, if_true]; exact Ev.now _
  · refine ev_ite (fun _ => ?_) (fun q1 => absurd (by omega) q1)
    apply ev_succ; simp only [spec_ParsePath.j0]
    refine ev_iteB (fun q2 => ?_) (fun q2 => ?_)
    · have : ¬ bt s 0 = 47 := by simpa using q2
      rw [if_neg (fun h => this h.2)]; exact Ev.now _
    · have : bt s 0 = 47 := by simpa using q2
      rw [if_pos ⟨by omega, this⟩]
      refine ev_ite (fun _ => ?_) (fun q1 => absurd (by omega) q1)
      refine Ev.bind (spec_l2Split_ev _ h1) ?_
      have hp1 := parts_len (bytesOf (s.extract 1 s.size))
      have hp2 := parts_size (bytesOf (s.extract 1 s.size))
      rw [← size_len] at hp1 hp2
      rw [← goS_goI]
      exact spec_ParsePath_l0 _ (by omega) (fun x hx => Nat.le_trans (hp2 x hx) h1)
theorem goI_len : ∀ (ps out r : List ByteArray), goI out ps = some r → r.length ≤ out.length + ps.length
  | [], out, r, h => by simp [goI] at h; subst h; simp
  | p :: ps, out, r, h => by
    unfold goI at h
    split at h
    · split at h
      · cases h
      · split at h
        · split at h
          · cases h
          · have := goI_len ps _ r h; rw [List.length_take] at this; simp; omega
        · split at h
          · have := goI_len ps _ r h; simp; omega
          · have := goI_len ps _ r h; simp at this ⊢; omega
    · cases h
theorem trimP_len (l : List ByteArray) : (trimP l).length ≤ l.length := by
  by_cases h : l = []
  · subst h; simp [trimP]
  · rw [trimP_eq l h]
    split
    · rw [List.length_take]; omega
    · exact Nat.le_refl _
theorem pathV_len (s : ByteArray) (hs : s.size ≤ 1048576) : (pathV s).1.length ≤ 1048577 := by
  have h1 := ex1_size s hs
  have hp1 := parts_len (bytesOf (s.extract 1 s.size))
  rw [← size_len] at hp1
  have ht := trimP_len (parts (bytesOf (s.extract 1 s.size)))
  unfold pathV
  split
  · match hg : goI [] (trimP (parts (bytesOf (s.extract 1 s.size)))) with
    | none => simp [pres]
    | some r =>
      have := goI_len _ _ _ hg
      simp only [pres]
      simp at this
      split
      · show r.length ≤ _; omega
      · simp
  · simp

/-- the digits of a number, as bytes -/
def numD (u : Nat) : List Int := (Lib.decDigits u).map fun b => (b.toNat : Int)
theorem numD_step (u : Nat) (h : 9 < u) : numD u = numD (u / 10) ++ [48 + ((u % 10 : Nat) : Int)] := by
  unfold numD
  rw [Lib.decDigits, dif_neg (by omega), List.map_append]
  congr 1
  simp only [List.map_cons, List.map_nil, List.cons.injEq, and_true]
  rw [show (UInt8.ofNat (48 + u % 10)).toNat = 48 + u % 10 from by simp; omega]
  omega
theorem numD_low (u : Nat) (h : u ≤ 9) : numD u = [48 + (u : Int)] := by
  unfold numD
  rw [Lib.decDigits, dif_pos (by omega)]
  simp only [List.map_cons, List.map_nil, List.cons.injEq, and_true]
  rw [show (UInt8.ofNat (48 + u)).toNat = 48 + u from by simp; omega]
  omega
theorem numD_range (u : Nat) : ∀ x ∈ numD u, 0 ≤ x ∧ x < 256 := by
  intro x hx
  obtain ⟨b, _, rfl⟩ := List.mem_map.1 hx
  have := b.toNat_lt
  omega
theorem strNum (u : Nat) : (⟨(Lib.decDigits u).toArray⟩ : ByteArray) = strOfNums (numD u) := by
  apply bytesOf_inj
  rw [bytesOf_strOfNums _ (numD_range u), bytesOf_mk]; rfl
theorem numD_len : ∀ (k u : Nat), u < 10 ^ (k + 1) → (numD u).length ≤ k + 1
  | 0, u, h => by rw [numD_low u (by simpa using Nat.le_of_lt_succ h)]; simp
  | k + 1, u, h => by
    rcases Nat.lt_or_ge 9 u with h9 | h9
    · rw [numD_step u h9, List.length_append]
      have := numD_len k (u / 10) (by rw [Nat.pow_succ] at h; omega)
      simp; omega
    · rw [numD_low u h9]; simp
/-- one digit in front -/
theorem digit_byte (u : Nat) (hu : u ≤ 9223372036854775807) : wrap64 (48 + Int.tmod (u : Int) 10) % 256 = 48 + ((u % 10 : Nat) : Int) := by
  have e : Int.tmod (u : Int) 10 = ((u % 10 : Nat) : Int) := by rw [Int.tmod_eq_emod_of_nonneg (by omega)]; omega
  rw [e, wrap_id (by omega) (by omega)]
  omega
theorem tdiv_ten (u : Nat) (hu : u ≤ 9223372036854775807) : wrap64 (Int.tdiv (u : Int) 10) = ((u / 10 : Nat) : Int) := by
  rw [Int.tdiv_eq_ediv_of_nonneg (by omega), wrap_id (by omega) (by omega)]
  omega

theorem markText_l0 : ∀ (u : Nat) (x : ByteArray), u ≤ 8796093022208 → x.size + u ≤ 17592186044416 → ∃ t, Ev (fun k => laws_markText.l0 k (u : Int) x) t := by
  intro u
  induction u using Nat.strongRecOn with
  | _ u ih =>
    intro x hu hx
    rcases Nat.eq_zero_or_pos u with h | h
    · subst h
      refine ⟨(⟨#[109]⟩ : ByteArray) ++ x, ?_⟩
      apply ev_succ
      simp only [laws_markText.l0, if_neg (show ¬ ((0 : Nat) : Int) > 0 by omega), if_pos (show 1 + x.size ≤ 9223372036854775807 by omega)]
      exact Ev.now _
    · have hs : (strOfNums [48 + ((u % 10 : Nat) : Int)]).size = 1 := by
        rw [size_len, bytesOf_strOfNums _ (by intro y hy; rw [List.mem_singleton] at hy; omega)]; rfl
      obtain ⟨t, ht⟩ := ih (u / 10) (by omega) (strOfNums [48 + ((u % 10 : Nat) : Int)] ++ x) (by omega) (by rw [ByteArray.size_append, hs]; omega)
      refine ⟨t, ?_⟩
      apply ev_succ
      simp only [laws_markText.l0, if_pos (show (u : Int) > 0 by omega), Option.bind_some, digit_byte u (by omega), tdiv_ten u (by omega), hs, if_pos (show 1 + x.size ≤ 9223372036854775807 by omega)]
      exact ht
theorem markText_ev (a : Int) (h1 : a ≤ 8796093022208) : ∃ t, Ev (fun k => laws_markText.f k a) t := by
  by_cases h : a ≤ 0
  · refine ⟨(⟨#[109, 48]⟩ : ByteArray), ?_⟩
    simp only [laws_markText.f, if_pos h]; exact Ev.now _
  · obtain ⟨t, ht⟩ := markText_l0 a.toNat (⟨#[]⟩ : ByteArray) (by omega) (by rw [show (⟨#[]⟩ : ByteArray).size = 0 from rfl]; omega)
    refine ⟨t, ?_⟩
    rw [Int.toNat_of_nonneg (by omega)] at ht
    simp only [laws_markText.f, if_neg h]; exact ht

noncomputable def mT (a : Int) : ByteArray := if h : a ≤ 8796093022208 then Classical.choose (markText_ev a h) else ⟨#[]⟩
theorem mT_ev (a : Int) (h : a ≤ 8796093022208) : Ev (fun k => laws_markText.f k a) (mT a) := by
  unfold mT; rw [dif_pos h]; exact Classical.choose_spec (markText_ev a h)
theorem markStringS_l0 : ∀ (n : Nat) (x : List ByteArray) (a : Int) (i : Nat), x.length - i = n → i ≤ x.length → x.length ≤ 1099511627776 → 0 ≤ a → a + n ≤ 8796093022208 → ∃ y, Ev (fun k => laws_markStringS.l0 k x a (i : Int)) (a + n, y) ∧ y.length = x.length ∧ (∀ j, j < i → y[j]? = x[j]?) ∧ ∀ j, i ≤ j → j < x.length → y[j]? = some (mT (a + (j - i : Nat)))
  | 0, x, a, i, hn, hi, hl, h0, h1 => by
    refine ⟨x, ?_, rfl, fun _ _ => rfl, fun j h2 h3 => by omega⟩
    apply ev_succ
    simp only [laws_markStringS.l0, if_neg (show ¬ (i : Int) < x.length by omega)]
    rw [show a + ((0 : Nat) : Int) = a by omega]; exact Ev.now _
  | n + 1, x, a, i, hn, hi, hl, h0, h1 => by
    obtain ⟨y, h2, h3, h4, h5⟩ := markStringS_l0 n (x.set i (mT a)) (a + 1) (i + 1) (by simp; omega) (by simp; omega) (by simp; omega) (by omega) (by omega)
    refine ⟨y, ?_, by rw [h3]; simp, ?_, ?_⟩
    · apply ev_succ
      simp only [laws_markStringS.l0, if_pos (show (i : Int) < x.length by omega), if_pos (show (0 : Int) ≤ i by omega), Int.toNat_natCast, wrap_id (x := a + 1) (by omega) (by omega), show wrap64 ((i : Int) + 1) = ((i + 1 : Nat) : Int) from by rw [wrap_id (by omega) (by omega)]; omega]
      refine Ev.bind (mT_ev a (by omega)) ?_
      rw [show a + ((n + 1 : Nat) : Int) = a + 1 + n by omega]; exact h2
    · intro j hj
      rw [h4 j (by omega), List.getElem?_set, if_neg (by omega)]
    · intro j hj hx
      rcases Nat.lt_or_ge i j with q | q
      · rw [h5 j (by omega) (by simp; omega)]
        congr 2; omega
      · have : j = i := by omega
        subst this
        rw [h4 j (by omega), List.getElem?_set, if_pos rfl, if_pos (by omega)]
        congr 2; omega
def MarkedT (a : Int) (y : List ByteArray) : Prop := ∀ j, j < y.length → y[j]? = some (mT (a + (j : Int)))
theorem markStringS_ev (x : List ByteArray) (a : Int) (hl : x.length ≤ 1099511627776) (h0 : 0 ≤ a) (h1 : a ≤ 1099511627776) : ∃ y, Ev (fun k => laws_markStringS.f k x a) (a + x.length, y) ∧ y.length = x.length ∧ MarkedT a y := by
  obtain ⟨y, h2, h3, _, h5⟩ := markStringS_l0 x.length x a 0 rfl (by omega) hl h0 (by omega)
  refine ⟨y, h2, h3, fun j hj => ?_⟩
  rw [h5 j (by omega) (by omega)]
  rfl
theorem heldStringS_l0 : ∀ (n : Nat) (y : List ByteArray) (a : Int) (i : Nat), y.length - i = n → i ≤ y.length → y.length ≤ 1099511627776 → 0 ≤ a → a ≤ 1099511627776 → MarkedT a y → Ev (fun k => laws_heldStringS.l0 k y (a + i) (i : Int)) (a + y.length)
  | 0, y, a, i, hn, hi, hl, h0, h1, hm => by
    apply ev_succ
    simp only [laws_heldStringS.l0, if_neg (show ¬ (i : Int) < y.length by omega)]
    rw [show a + (y.length : Int) = a + i by omega]; exact Ev.now _
  | n + 1, y, a, i, hn, hi, hl, h0, h1, hm => by
    have ih := heldStringS_l0 n y a (i + 1) (by omega) (by omega) hl h0 h1 hm
    have hr : rdOf ByteArray.empty y (i : Int) = mT (a + i) := by
      show y.getD ((i : Int)).toNat ByteArray.empty = _
      rw [Int.toNat_natCast, List.getD_eq_getElem?_getD, hm i (by omega)]; rfl
    apply ev_succ
    simp only [laws_heldStringS.l0, if_pos (show (i : Int) < y.length by omega), if_pos (show (0 : Int) ≤ i by omega), hr, show wrap64 ((i : Int) + 1) = ((i + 1 : Nat) : Int) from by rw [wrap_id (by omega) (by omega)]; omega, show wrap64 (a + (i : Int) + 1) = a + ((i + 1 : Nat) : Int) from by rw [wrap_id (by omega) (by omega)]; omega]
    exact Ev.bind (mT_ev (a + i) (by omega)) (ev_ite (fun _ => ih) (fun q => absurd rfl q))
theorem heldStringS_ev (y : List ByteArray) (a : Int) (hl : y.length ≤ 1099511627776) (h0 : 0 ≤ a) (h1 : a ≤ 1099511627776) (hm : MarkedT a y) : Ev (fun k => laws_heldStringS.f k y a) (a + y.length) := by
  have := heldStringS_l0 y.length y a 0 rfl (by omega) hl h0 h1 hm
  simpa [laws_heldStringS.f] using this

theorem eqStringS_ev (a b : List ByteArray) (ha : a.length ≤ 9223372036854775806) : Ev (fun k => laws_eqStringS.f k a b) (eqb a b) := by
  unfold laws_eqStringS.f
  refine ev_ite (fun q => ?_) (fun q => ?_)
  · have q' : a.length = b.length := by omega
    refine eq_loop a b (· = ·) q' ha (fun i k => laws_eqStringS.l0 k a b (i : Int)) _ ((eqb_iff a b).trans (list_eq_iff a b q')) ?_ ?_
    · intro i hi
      apply ev_succ; simp only [laws_eqStringS.l0, if_neg (show ¬ (i : Int) < a.length by omega)]; exact Ev.now _
    · intro i x y v hi hx hy hw1 ih
      have hxx : rdOf ByteArray.empty a (i : Int) = x := hx _
      have hyy : rdOf ByteArray.empty b (i : Int) = y := hy _
      refine ⟨fun hR => ?_, fun hR => ?_⟩
      · apply ev_succ
        simp only [laws_eqStringS.l0, if_pos (show (i : Int) < a.length by omega), if_pos (show (0 : Int) ≤ i by omega), if_pos (show (i : Int) < b.length by omega), hxx, hyy, hw1, toList_iff, if_pos hR]; exact ih
      · apply ev_succ
        simp only [laws_eqStringS.l0, if_pos (show (i : Int) < a.length by omega), if_pos (show (0 : Int) ≤ i by omega), if_pos (show (i : Int) < b.length by omega), hxx, hyy, hw1, toList_iff, if_neg hR]; exact Ev.now _
  · rw [eqb_ne (fun h => q (by rw [h]))]; exact Ev.now _

theorem FnExactParsePath : laws_FnExactParsePath.Pure := by
  intro s hs
  apply Ev.rounds
  unfold laws_FnExactParsePath.f
  refine ev_ite (fun _ => Ev.now _) (fun q => ?_)
  have hs' : s.size ≤ 1048576 := by omega
  have es := spec_ParsePath_ev s hs'
  have ei := impl_ParsePath_ev s hs'
  have hv := pathV_len s hs'
  generalize pathV s = V at es ei hv
  obtain ⟨V1, V2⟩ := V
  replace hv : V1.length ≤ 1048577 := hv
  have ee := eqStringS_ev V1 V1 (by omega)
  rw [eqb_self] at ee
  refine Ev.bind es (Ev.bind ei (Ev.bind ee (ev_ite (fun _ => ?_) (fun q => absurd rfl q))))
  apply ev_succ
  simp only [laws_FnExactParsePath.j0, bne_self_eq_false, Bool.false_eq_true, if_false]
  obtain ⟨z, hz1, hz2, hz3⟩ := markStringS_ev V1 1 (by omega) (by omega) (by omega)
  have hh := heldStringS_ev z 1 (by omega) (by omega) (by omega) hz3
  rw [hz2] at hh
  refine Ev.bind hz1 (Ev.bind hh (ev_ite (fun q => absurd q (by omega)) (fun _ => ev_ite (fun _ => ?_) (fun q => absurd rfl q))))
  refine Ev.bind ei (Ev.bind ee (ev_ite (fun _ => ?_) (fun q => absurd rfl q)))
  apply ev_succ
  simp only [laws_FnExactParsePath.j1, bne_self_eq_false, Bool.false_eq_true, if_false]
  exact Ev.bind hh (ev_ite (fun q => absurd q (by omega)) (fun _ => ev_ite (fun _ => Ev.now _) (fun q => absurd rfl q)))

end Go.Proofs.YtgfpiijpgpkoiabDoor.Pure
