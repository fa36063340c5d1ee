/- A drawn path comes back of its text; what is read is a path; told and read anew it is the same: for all codes; no condition. -/
import Derived.Test.YtgfpiijpgpkoiabDoorGFnPathsx8
import Derived.Test.YtgfpiijpgpkoiabDoorBase
import Derived.Lib.SplitLaws
import Derived.Lib.Bytealg
import Derived.Lib.Join
namespace Go.Proofs.YtgfpiijpgpkoiabDoor.Pure
open Go.RowKit Go.Proofs.YtgfpiijpgpkoiabDoor.GFnPaths Go.Proofs.YtgfpiijpgpkoiabDoor.Base Go.Proofs.YtgfpiijpgpkoiabDoorW.PrintWords Go.Proofs.YtgfpiijpgpkoiabDoorW.PrintLast
set_option linter.unusedVariables false
set_option linter.unusedSimpArgs false

/-- a text's parts between the strokes; cur: the part that is open -/
def splA : List Int → List Int → List (List Int)
  | cur, [] => [cur]
  | cur, c :: r => if c = 47 then cur :: splA [] r else splA (cur ++ [c]) r
def parts (l : List Int) : List ByteArray := (splA [] l).map strOfNums
theorem take_snoc {l : List Int} {i st : Nat} {c : Int} {r : List Int} (h : l.drop i = c :: r) (hs : st ≤ i) : (l.take (i + 1)).drop st = (l.take i).drop st ++ [c] := by
  obtain ⟨_, h2, _, h4⟩ := l_drop h
  rw [List.take_add_one, h4, Option.toList_some, List.drop_append_of_le_length (by rw [List.length_take]; omega)]
theorem spec_l2Split_ev (s : ByteArray) (hs : s.size ≤ 1048576) : Ev (fun k => spec_l2Split.f k s 47) (parts (bytesOf s)) := by
  have key := str_loop_st s (fun i (x : List ByteArray × Nat) k => spec_l2Split.l0 k s 47 x.1 (x.2 : Int) (i : Int)) (fun i x r => x.1 ++ (splA (((bytesOf s).take i).drop x.2) r).map strOfNums) (fun i x r => x.2 ≤ i ∧ x.1.length ≤ i ∧ i + r.length = s.size) ?_ ?_ (by omega) 0 ([], 0) ⟨Nat.le_refl _, by simp, by simp [bytesOf_length]⟩
  · unfold spec_l2Split.f parts
    simpa using key
  · rintro i ⟨acc, st⟩ ⟨h1, h2, h3⟩ hi
    have hi' : i = s.size := by simpa using h3
    have hw : wrap64 ((i : Int) + 1) = ((i + 1 : Nat) : Int) := by rw [wrap_id (by omega) (by omega)]; rfl
    have a1 : (i : Int) ≤ (s.size : Int) := by omega
    have a2 : (i : Int) = (s.size : Int) := by omega
    have a3 : (0 : Int) ≤ (st : Int) := by omega
    have a4 : (st : Int) ≤ (i : Int) := by simp at h1; omega
    have a5 : acc.length < 8796093022208 := by simp at h2; omega
    have a6 : ¬ ((i + 1 : Nat) : Int) ≤ (s.size : Int) := by omega
    apply ev_succ
    simp only [spec_l2Split.l0, if_pos a1, if_pos a2, if_pos a3, if_pos a4, if_pos a5, hw, Int.toNat_natCast]
    apply ev_succ
    simp only [spec_l2Split.l0, if_neg a6]
    have e : s.extract st i = strOfNums (((bytesOf s).take i).drop st) := by rw [← bytesOf_extract, strOfNums_bytesOf]
    rw [e]
    exact Ev.now _
  · rintro i ⟨acc, st⟩ c r ⟨h1, h2, h3⟩ h hb hi hw hw1 ih
    have a1 : (i : Int) ≤ (s.size : Int) := by omega
    have a2 : ¬ (i : Int) = (s.size : Int) := by omega
    have a3 : (0 : Int) ≤ (st : Int) := by omega
    have a4 : (st : Int) ≤ (i : Int) := by simp at h1; omega
    have a5 : acc.length < 8796093022208 := by simp at h2; omega
    have a6 : (i : Int) < (s.size : Int) := by omega
    have a7 : (0 : Int) ≤ (i : Int) := by omega
    have a8 : i + 1 + r.length = s.size := by simp at h3; omega
    have a9 : st ≤ i := h1
    have a10 : acc.length ≤ i := h2
    apply ev_succ
    simp only [spec_l2Split.l0, if_pos a1, if_neg a2, if_pos a6, if_pos a7, hb, hw1]
    refine ev_ite (fun q => ?_) (fun q => ?_)
    · simp only [if_pos a3, if_pos a4, if_pos a5, Int.toNat_natCast]
      have := ih (acc ++ [s.extract st i], i + 1) ⟨Nat.le_refl _, by simp; exact a10, a8⟩
      have e : s.extract st i = strOfNums (((bytesOf s).take i).drop st) := by rw [← bytesOf_extract, strOfNums_bytesOf]
      have e2 : ((bytesOf s).take (i + 1)).drop (i + 1) = [] := List.drop_eq_nil_of_le (by rw [List.length_take]; exact Nat.min_le_left _ _)
      simp only [e2, e] at this
      rw [e]
      simp only [splA, if_pos q, List.map_cons]
      simpa using this
    · have := ih (acc, st) ⟨Nat.le_succ_of_le a9, Nat.le_succ_of_le a10, a8⟩
      simp only [take_snoc h a9] at this
      simp only [splA, if_neg q]
      exact this

theorem u8_eq {a : Int} (h0 : 0 ≤ a) (h1 : a < 256) (n : Nat) (hn : n < 256) : (UInt8.ofNat n == UInt8.ofNat a.toNat) = decide (a = n) := by
  rw [Bool.eq_iff_iff, beq_iff_eq, decide_eq_true_iff]
  constructor
  · intro h
    have := congrArg UInt8.toNat h
    simp only [UInt8.toNat_ofNat'] at this
    omega
  · rintro rfl; simp

def t47 (r : List Int) : List Int := r.takeWhile fun c => decide (c ≠ 47)
def d47 (r : List Int) : List Int := r.dropWhile fun c => decide (c ≠ 47)
theorem t47_d47 (r : List Int) : t47 r ++ d47 r = r := List.takeWhile_append_dropWhile
theorem splA_cut : ∀ (l cur : List Int), splA cur l = if d47 l = [] then [cur ++ l] else (cur ++ t47 l) :: splA [] (d47 l).tail
  | [], cur => by simp [splA, d47]
  | c :: r, cur => by
    by_cases q : c = 47
    · rw [splA, if_pos q]
      have e1 : d47 (c :: r) = c :: r := by simp [d47, q]
      have e2 : t47 (c :: r) = [] := by simp [t47, q]
      rw [e1, e2, if_neg (by simp)]; simp
    · have e1 : d47 (c :: r) = d47 r := by simp [d47, q]
      have e2 : t47 (c :: r) = c :: t47 r := by simp [t47, q]
      rw [splA, if_neg q, splA_cut r (cur ++ [c]), e1, e2]
      by_cases q1 : d47 r = []
      · rw [if_pos q1, if_pos q1]; simp
      · rw [if_neg q1, if_neg q1]; simp
theorem index47 : ∀ (r : List Int), (∀ x ∈ r, 0 ≤ x ∧ x < 256) → Lib.index (r.map fun n => UInt8.ofNat n.toNat) [47] = if d47 r = [] then -1 else ((t47 r).length : Int)
  | [], _ => rfl
  | c :: r, hr => by
    have hc := hr c (by simp)
    have ih := index47 r (fun x hx => hr x (by simp [hx]))
    have e := u8_eq hc.1 hc.2 47 (by omega)
    rw [List.map_cons, Lib.index]
    have c47 : (47 : UInt8) = UInt8.ofNat 47 := rfl
    simp only [List.isPrefixOf, Bool.and_true]
    rw [c47, e]
    by_cases q : c = ((47 : Nat) : Int)
    · have q' : c = 47 := q
      rw [decide_eq_true q, if_pos rfl, q']
      simp [d47, t47]
    · have q' : c ≠ 47 := q
      rw [decide_eq_false q, if_neg (by simp), ← c47, ih]
      have e1 : d47 (c :: r) = d47 r := by simp [d47, q']
      have e2 : t47 (c :: r) = c :: t47 r := by simp [t47, q']
      rw [e1, e2]
      by_cases q1 : d47 r = []
      · simp [q1]
      · rw [if_neg q1, if_neg q1]
        rw [if_neg (by simp only [beq_iff_eq]; omega)]
        simp
theorem data_bytes (s : ByteArray) : s.data.toList = (bytesOf s).map fun n => UInt8.ofNat n.toNat := by
  have h := congrArg (fun b : ByteArray => b.data.toList) (strOfNums_bytesOf s)
  simp only [strOfNums_data] at h
  exact h.symm
theorem splitB_parts : ∀ (n : Nat) (s : ByteArray), s.size ≤ n → Lib.splitB ⟨#[47]⟩ 0 (Lib.countB s ⟨#[47]⟩) s = parts (bytesOf s) := by
  intro n
  induction n with
  | zero =>
    intro s h
    have h0 : bytesOf s = [] := List.eq_nil_of_length_eq_zero (by rw [bytesOf_length]; omega)
    have hi : Lib.indexB s ⟨#[47]⟩ = -1 := by
      show Lib.index s.data.toList [47] = -1
      rw [data_bytes, h0]; rfl
    rw [Lib.splitB_miss _ _ _ _ hi]
    unfold parts
    rw [h0]
    have : s = strOfNums [] := by rw [← h0, strOfNums_bytesOf]
    rw [this]; rfl
  | succ n ih =>
    intro s h
    have hi : Lib.indexB s ⟨#[47]⟩ = if d47 (bytesOf s) = [] then -1 else ((t47 (bytesOf s)).length : Int) := by
      show Lib.index s.data.toList [47] = _
      rw [data_bytes, index47 _ (bytesOf_range s)]
    unfold parts
    rw [splA_cut]
    by_cases q : d47 (bytesOf s) = []
    · rw [if_pos q] at hi
      rw [Lib.splitB_miss _ _ _ _ hi, if_pos q]
      simp [strOfNums_bytesOf]
    · rw [if_neg q] at hi
      rw [if_neg q, Lib.countB_hit s ⟨#[47]⟩ _ (by decide) hi, Nat.add_comm, Lib.splitB_hit _ _ _ _ _ hi]
      have hl : (t47 (bytesOf s)).length + (d47 (bytesOf s)).length = s.size := by rw [← List.length_append, t47_d47, bytesOf_length]
      have hd : 0 < (d47 (bytesOf s)).length := List.length_pos_iff.2 q
      have e1 : bytesOf (s.extract ((t47 (bytesOf s)).length + (⟨#[47]⟩ : ByteArray).size) s.size) = (d47 (bytesOf s)).tail := by
        rw [bytesOf_extract, List.take_of_length_le (by rw [bytesOf_length]; exact Nat.le_refl _)]
        have h2 := @List.drop_left _ (t47 (bytesOf s)) (d47 (bytesOf s))
        rw [t47_d47] at h2
        show (bytesOf s).drop ((t47 (bytesOf s)).length + 1) = _
        rw [← List.drop_drop, h2, List.drop_one]
      have e2 : s.extract 0 ((t47 (bytesOf s)).length + 0) = strOfNums (t47 (bytesOf s)) := by
        apply bytesOf_inj
        have h2 := @List.take_left _ (t47 (bytesOf s)) (d47 (bytesOf s))
        rw [t47_d47] at h2
        rw [bytesOf_extract, Nat.add_zero, h2, List.drop_zero, bytesOf_strOfNums]
        intro x hx
        exact bytesOf_range s x (by rw [← t47_d47 (bytesOf s)]; exact List.mem_append_left _ hx)
      have hsz : (s.extract ((t47 (bytesOf s)).length + (⟨#[47]⟩ : ByteArray).size) s.size).size ≤ n := by
        rw [size_len, e1, List.length_tail]; omega
      rw [ih _ hsz, e1, e2]
      simp [parts]

/-- byte classes -/
def plainC (c : Int) : Bool := decide (32 ≤ c) && decide (c ≤ 126)
def smallC (c : Int) : Bool := decide (97 ≤ c) && decide (c ≤ 122)
def digitC (c : Int) : Bool := decide (48 ≤ c) && decide (c ≤ 57)
def largeC (c : Int) : Bool := decide (65 ≤ c) && decide (c ≤ 90)

theorem l1In_eq (c a b : Int) : spec_l1In.f c a b = some (decide (a ≤ c) && decide (c ≤ b)) := by
  unfold spec_l1In.f; split <;> simp [*] <;> omega

theorem l1Digit_eq (c : Int) (h : wrap64 c = c) : spec_l1Digit.f c = some (digitC c) := by
  unfold spec_l1Digit.f; rw [h, l1In_eq]; rfl

theorem isDigit_eq (c : Int) : impl_isDigit.f c = some (digitC c) := by
  unfold impl_isDigit.f digitC; split <;> simp [*] <;> omega

/-- a digit's worth to the base 16, or -1 -/
def hexC (c : Int) : Int := if digitC c = true then c - 48 else if 97 ≤ c ∧ c ≤ 102 then c - 87 else if 65 ≤ c ∧ c ≤ 70 then c - 55 else -1
theorem hexC_range (c : Int) : -1 ≤ hexC c ∧ hexC c < 16 := by
  unfold hexC digitC
  split
  · rename_i h; simp at h; omega
  · split
    · omega
    · split <;> omega
theorem digitOf_ev (c : Int) (h0 : 0 ≤ c) (h1 : c < 256) : Ev (fun k => impl_digitOf.f k c) (hexC c) := by
  have H : ∀ k, impl_digitOf.f (k + 1) c = some (hexC c) := by
    intro k
    simp only [impl_digitOf.f, isDigit_eq, Option.bind_some, impl_digitOf.j0, hexC]
    by_cases a1 : 48 ≤ c <;> by_cases a2 : c ≤ 57 <;> by_cases a3 : 97 ≤ c <;> by_cases a4 : c ≤ 102 <;> by_cases a5 : 65 ≤ c <;> by_cases a6 : c ≤ 70
    all_goals first | (exfalso; omega) | (simp [digitC, a1, a2, a3, a4, a5, a6, ge_iff_le]; done) | (simp [digitC, a1, a2, a3, a4, a5, a6, ge_iff_le]; omega)
  exact Ev.step H (Ev.now _)
theorem l1HexOf_eq (c : Int) (h0 : 0 ≤ c) (h1 : c < 256) : spec_l1HexOf.f c = some (hexC c) := by
  have hw : wrap64 c = c := wrap_id (by omega) (by omega)
  simp only [spec_l1HexOf.f, l1Digit_eq c hw, Option.bind_some, hw, l1In_eq, hexC]
  by_cases q : digitC c = true
  · rw [if_pos q, if_pos q, wrap_id (by omega) (by omega)]
  · rw [if_neg q, if_neg q]
    by_cases q1 : 97 ≤ c ∧ c ≤ 102
    · rw [if_pos (by simpa using q1), if_pos q1, wrap_id (x := c - 97) (by omega) (by omega), wrap_id (by omega) (by omega)]; congr 1; omega
    · rw [if_neg (by simpa using q1), if_neg q1]
      by_cases q2 : 65 ≤ c ∧ c ≤ 70
      · rw [if_pos (by simpa using q2), if_pos q2, wrap_id (x := c - 65) (by omega) (by omega), wrap_id (by omega) (by omega)]; congr 1; omega
      · rw [if_neg (by simpa using q2), if_neg q2]

/-- what stands for bytes quoted; none: it is not right -/
def unq : List Int → Option (List Int)
  | [] => some []
  | [c] => if c = 37 then none else some [c]
  | [c, a] => if c = 37 then none else (unq [a]).map (c :: ·)
  | c :: a :: b :: r => if c = 37 then (if hexC a < 0 ∨ hexC b < 0 then none else (unq r).map ((hexC a * 16 + hexC b) :: ·)) else (unq (a :: b :: r)).map (c :: ·)
def unqR (acc : List Int) : Option (List Int) → ByteArray × Bool
  | some o => (strOfNums (acc ++ o), true)
  | none => (⟨#[]⟩, false)
def unquote (s : ByteArray) : ByteArray × Bool := unqR [] (unq (bytesOf s))
theorem unq_plain (c : Int) (r : List Int) (h : c ≠ 37) : unq (c :: r) = (unq r).map (c :: ·) := by
  match r with
  | [] => simp only [unq, if_neg h, Option.map_some]
  | [a] => simp only [unq, if_neg h]
  | a :: b :: r => rw [unq, if_neg h]
theorem unq_short (r : List Int) (h : r.length < 2) : unq (37 :: r) = none := by
  match r, h with
  | [], _ => rfl
  | [_], _ => rfl
theorem unq_bad (a b : Int) (r : List Int) (h : hexC a < 0 ∨ hexC b < 0) : unq (37 :: a :: b :: r) = none := by rw [unq, if_pos rfl, if_pos h]
theorem unq_good (a b : Int) (r : List Int) (h : ¬ (hexC a < 0 ∨ hexC b < 0)) : unq (37 :: a :: b :: r) = (unq r).map ((hexC a * 16 + hexC b) :: ·) := by rw [unq, if_pos rfl, if_neg h]
theorem unqR_cons (acc : List Int) (c : Int) (o : Option (List Int)) : unqR acc (o.map (c :: ·)) = unqR (acc ++ [c]) o := by
  cases o <;> simp [unqR]
/-- Strong induction over the bytes that are left. -/
theorem drop_rec {s : ByteArray} {P : Nat → List Int → Prop} (H : ∀ i rest, (bytesOf s).drop i = rest → (∀ j rest', (bytesOf s).drop j = rest' → i < j → j ≤ s.size → P j rest') → P i rest) : ∀ i rest, (bytesOf s).drop i = rest → P i rest := by
  have key : ∀ n i rest, s.size - i ≤ n → (bytesOf s).drop i = rest → P i rest := by
    intro n
    induction n with
    | zero => intro i rest hn h; exact H i rest h (fun j rest' hj hlt hle => by omega)
    | succ n ih => intro i rest hn h; exact H i rest h (fun j rest' hj hlt hle => ih j rest' (by omega) hj)
  exact fun i rest h => key _ i rest (Nat.le_refl _) h
theorem impl_Unquote_l0 {s : ByteArray} (hs : s.size ≤ 140737488351232) : ∀ i rest, (bytesOf s).drop i = rest → ∀ acc : List Int, acc.length ≤ i → Ev (fun k => impl_Unquote.l0 k s acc (i : Int)) (unqR acc (unq rest)) := by
  refine drop_rec ?_
  intro i rest h ih acc ha
  match rest, h with
  | [], h =>
    have hi := size_drop h
    apply ev_succ; simp only [impl_Unquote.l0, if_neg (show ¬ (i : Int) < s.size by omega)]
    have : unqR acc (unq []) = (strOfNums acc, true) := by simp [unq, unqR]
    rw [this]; exact Ev.now _
  | c :: r, h =>
    obtain ⟨hb, hi, hd⟩ := bt_drop h
    have hw1 := wrap_nat hs hi
    have hw2 : wrap64 ((i : Int) + 2) = ((i + 2 : Nat) : Int) := by rw [wrap_id (by omega) (by omega)]; rfl
    apply ev_succ
    simp only [impl_Unquote.l0, if_pos (show (i : Int) < s.size by omega), if_pos (show (0 : Int) ≤ i by omega), hb, hw1, hw2, if_pos (show acc.length < 140737488355328 by omega)]
    refine ev_ite (fun q => ?_) (fun q => ?_)
    · subst q
      have hl : s.size = i + 1 + r.length := by have := congrArg List.length h; rw [List.length_drop, bytesOf_length] at this; simp at this; omega
      match r, hd, hl with
      | [], hd, hl =>
        rw [unq_short _ (by simp)]; simp at hl
        simp only [if_pos (show ((i + 2 : Nat) : Int) ≥ s.size by omega)]; exact Ev.now _
      | [_], hd, hl =>
        rw [unq_short _ (by simp)]; simp at hl
        simp only [if_pos (show ((i + 2 : Nat) : Int) ≥ s.size by omega)]; exact Ev.now _
      | a :: b :: r', hd, hl =>
        simp at hl
        have g1 : ¬ ((i + 2 : Nat) : Int) ≥ s.size := by omega
        have g2 : (0 : Int) ≤ ((i + 1 : Nat) : Int) := by omega
        have g3 : ((i + 1 : Nat) : Int) < s.size := by omega
        have g4 : (0 : Int) ≤ ((i + 2 : Nat) : Int) := by omega
        have g5 : ((i + 2 : Nat) : Int) < s.size := by omega
        have hw3 : wrap64 (((i + 2 : Nat) : Int) + 1) = ((i + 3 : Nat) : Int) := by rw [wrap_id (by omega) (by omega)]; rfl
        have g6 : acc.length < 140737488355328 := by omega
        have g7 : i + 3 ≤ s.size := by omega
        obtain ⟨hb1, hi1, hd1⟩ := bt_drop hd
        obtain ⟨hb2, hi2, hd2⟩ := bt_drop hd1
        have ra := bytesOf_range s a (List.mem_of_mem_drop (by rw [hd]; simp : a ∈ (bytesOf s).drop (i + 1)))
        have rb := bytesOf_range s b (List.mem_of_mem_drop (by rw [hd1]; simp : b ∈ (bytesOf s).drop (i + 1 + 1)))
        have xa := hexC_range a; have xb := hexC_range b
        have hb2' : bt s ((i + 2 : Nat) : Int) = b := hb2
        simp only [if_neg g1, if_pos g2, if_pos g3, if_pos g4, if_pos g5, hb1, hb2', hw3]
        refine Ev.bind (digitOf_ev a ra.1 ra.2) (Ev.bind (digitOf_ev b rb.1 rb.2) (ev_ite (fun q1 => ?_) (fun q1 => ev_ite (fun q2 => ?_) (fun q2 => ?_))))
        · rw [unq_bad _ _ _ (.inl q1)]; exact Ev.now _
        · rw [unq_bad _ _ _ (.inr q2)]; exact Ev.now _
        · rw [unq_good _ _ _ (fun hh => hh.elim q1 q2), unqR_cons]
          have e : (wrap64 (wrap64 (16 * hexC a) + hexC b)) % 256 = hexC a * 16 + hexC b := by
            clear hb hb1 hb2 hb2' hw1 hw2 hw3
            rw [wrap_id (x := 16 * hexC a) (by omega) (by omega), wrap_id (by omega) (by omega)]; omega
          rw [e]
          have hd3 : (bytesOf s).drop (i + 3) = r' := hd2
          have hz := ih (i + 3) r' hd3 (by clear hb hb1 hb2 hb2' hw1 hw2 hw3; omega) g7 (acc ++ [hexC a * 16 + hexC b]) (by clear hb hb1 hb2 hb2' hw1 hw2 hw3; rw [List.length_append]; simp; omega)
          exact hz
    · rw [unq_plain _ _ q, unqR_cons]
      exact ih (i + 1) r hd (by omega) (by omega) _ (by simp; omega)
theorem impl_Unquote_ev (s : ByteArray) (hs : s.size ≤ 140737488351232) : Ev (fun k => impl_Unquote.f k s) (unquote s) := impl_Unquote_l0 hs 0 _ rfl [] (by simp)
theorem spec_Unquote_l0 {s : ByteArray} (hs : s.size ≤ 140737488351232) : ∀ i rest, (bytesOf s).drop i = rest → ∀ acc : List Int, acc.length ≤ i → Ev (fun k => spec_Unquote.l0 k s acc (i : Int)) (unqR acc (unq rest)) := by
  refine drop_rec ?_
  intro i rest h ih acc ha
  match rest, h with
  | [], h =>
    have hi := size_drop h
    apply ev_succ; simp only [spec_Unquote.l0, if_neg (show ¬ (i : Int) < s.size by omega)]
    have : unqR acc (unq []) = (strOfNums acc, true) := by simp [unq, unqR]
    rw [this]; exact Ev.now _
  | c :: r, h =>
    obtain ⟨hb, hi, hd⟩ := bt_drop h
    have hw1 := wrap_nat hs hi
    have hw2 : wrap64 ((i : Int) + 2) = ((i + 2 : Nat) : Int) := by rw [wrap_id (by omega) (by omega)]; rfl
    have jt : ∀ (a : List Int) (x : Int), Ev (fun k => spec_Unquote.j1 k s a x true) ((⟨#[]⟩ : ByteArray), false) := by
      intro a x; apply ev_succ; simp only [spec_Unquote.j1, if_true]; exact Ev.now _
    apply ev_succ
    simp only [spec_Unquote.l0, if_pos (show (i : Int) < s.size by omega), if_pos (show (0 : Int) ≤ i by omega), hb, hw1, hw2, if_pos (show acc.length < 140737488355328 by omega)]
    refine ev_ite (fun q => ?_) (fun q => ?_)
    · subst q
      have hl : s.size = i + 1 + r.length := by have := congrArg List.length h; rw [List.length_drop, bytesOf_length] at this; simp at this; omega
      match r, hd, hl with
      | [], hd, hl =>
        rw [unq_short _ (by simp)]; simp at hl
        simp only [if_pos (show ((i + 2 : Nat) : Int) ≥ s.size by omega)]; exact jt _ _
      | [_], hd, hl =>
        rw [unq_short _ (by simp)]; simp at hl
        simp only [if_pos (show ((i + 2 : Nat) : Int) ≥ s.size by omega)]; exact jt _ _
      | a :: b :: r', hd, hl =>
        simp at hl
        have g1 : ¬ ((i + 2 : Nat) : Int) ≥ s.size := by omega
        have g2 : (0 : Int) ≤ ((i + 1 : Nat) : Int) := by omega
        have g3 : ((i + 1 : Nat) : Int) < s.size := by omega
        have g4 : (0 : Int) ≤ ((i + 2 : Nat) : Int) := by omega
        have g5 : ((i + 2 : Nat) : Int) < s.size := by omega
        have hw3 : wrap64 (((i + 2 : Nat) : Int) + 1) = ((i + 3 : Nat) : Int) := by rw [wrap_id (by omega) (by omega)]; rfl
        have g6 : acc.length < 140737488355328 := by omega
        have g7 : i + 3 ≤ s.size := by omega
        obtain ⟨hb1, hi1, hd1⟩ := bt_drop hd
        obtain ⟨hb2, hi2, hd2⟩ := bt_drop hd1
        have ra := bytesOf_range s a (List.mem_of_mem_drop (by rw [hd]; simp : a ∈ (bytesOf s).drop (i + 1)))
        have rb := bytesOf_range s b (List.mem_of_mem_drop (by rw [hd1]; simp : b ∈ (bytesOf s).drop (i + 1 + 1)))
        have xa := hexC_range a; have xb := hexC_range b
        have hb2' : bt s ((i + 2 : Nat) : Int) = b := hb2
        simp only [if_neg g1, if_pos g2, if_pos g3, if_pos g4, if_pos g5, hb1, hb2', l1HexOf_eq a ra.1 ra.2, l1HexOf_eq b rb.1 rb.2, Option.bind_some]
        refine ev_ite (fun q1 => ?_) (fun q1 => ?_)
        · rw [unq_bad _ _ _ (.inl q1)]; exact jt _ _
        · by_cases q2 : hexC b < 0
          · rw [unq_bad _ _ _ (.inr q2), decide_eq_true q2]; exact jt _ _
          · rw [unq_good _ _ _ (fun hh => hh.elim q1 q2), unqR_cons, decide_eq_false q2]
            have e : (wrap64 (wrap64 (hexC a * 16) + hexC b)) % 256 = hexC a * 16 + hexC b := by
              clear hb hb1 hb2 hb2' hw1 hw2 hw3
              rw [wrap_id (x := hexC a * 16) (by omega) (by omega), wrap_id (by omega) (by omega)]; omega
            apply ev_succ
            simp only [spec_Unquote.j1, if_neg (show ¬ false = true by simp), hw1, hw2, if_pos g2, if_pos g3, if_pos g4, if_pos g5, hb1, hb2', hw3, l1HexOf_eq a ra.1 ra.2, l1HexOf_eq b rb.1 rb.2, Option.bind_some, if_pos g6, e]
            have hd3 : (bytesOf s).drop (i + 3) = r' := hd2
            have hz := ih (i + 3) r' hd3 (by clear hb hb1 hb2 hb2' hw1 hw2 hw3; omega) g7 (acc ++ [hexC a * 16 + hexC b]) (by clear hb hb1 hb2 hb2' hw1 hw2 hw3; rw [List.length_append]; simp; omega)
            exact hz
    · rw [unq_plain _ _ q, unqR_cons]
      exact ih (i + 1) r hd (by omega) (by omega) _ (by simp; omega)
theorem spec_Unquote_ev (s : ByteArray) (hs : s.size ≤ 140737488351232) : Ev (fun k => spec_Unquote.f k s) (unquote s) := spec_Unquote_l0 hs 0 _ rfl [] (by simp)

theorem lit_iff (s : ByteArray) (l : List UInt8) : s.toList = l ↔ bytesOf s = l.map fun b => (b.toNat : Int) := by
  rw [Lib.toList_data]
  unfold bytesOf
  constructor
  · intro h; rw [h]
  · intro h; exact List.map_inj_right (fun x y hxy => UInt8.toNat_inj.mp (by omega)) |>.mp h
theorem indexByte_mem : ∀ (l : List UInt8) (c : UInt8), 0 ≤ Lib.indexByte l c ↔ c ∈ l
  | [], c => by simp [Lib.indexByte]
  | b :: l, c => by
    have ih := indexByte_mem l c
    have hg := Lib.indexByte_ge l c
    simp only [Lib.indexByte]
    by_cases h : b = c
    · subst h; simp
    · have h' : (b == c) = false := by simpa using h
      have h2 : ¬ c = b := fun e => h e.symm
      rw [h']
      simp only [Bool.false_eq_true, if_false, List.mem_cons, h2, false_or, ← ih]
      by_cases q : Lib.indexByte l c = -1
      · simp [q]
      · have : (Lib.indexByte l c == -1) = false := by simpa using q
        rw [this]; simp only [Bool.false_eq_true, if_false]; omega
theorem mem_bytes (s : ByteArray) (c : UInt8) : c ∈ s.data.toList ↔ (c.toNat : Int) ∈ bytesOf s := by
  unfold bytesOf
  rw [List.mem_map]
  constructor
  · intro h; exact ⟨c, h, rfl⟩
  · rintro ⟨d, hd, he⟩
    have : d = c := UInt8.toNat_inj.mp (by omega)
    rw [← this]; exact hd

theorem isPlain_eq (c : Int) : impl_isPlain.f c = some (plainC c) := by
  unfold impl_isPlain.f plainC; split <;> simp [*] <;> omega
def plainB (l : List Int) : Bool := l.all plainC
theorem impl_Plain_ev (s : ByteArray) (hs : s.size ≤ 140737488351232) : Ev (fun k => impl_Plain.f k s) (plainB (bytesOf s)) := by
  refine str_loop s (fun i k => impl_Plain.l0 k s (i : Int)) plainB ?_ ?_ hs 0
  · intro i hi
    apply ev_succ; simp only [impl_Plain.l0, if_neg (show ¬ (i : Int) < s.size by omega)]; exact Ev.now _
  · intro i c r h hb hi hw hw1 ih
    apply ev_succ
    simp only [impl_Plain.l0, if_pos (show (i : Int) < s.size by omega), if_pos (show (0 : Int) ≤ i by omega), hb, isPlain_eq, Option.bind_some, hw1]
    refine ev_ite (fun h => ?_) (fun h => ?_)
    · simpa [plainB, h] using ih
    · simpa [plainB, h] using Ev.now _
theorem spec_Plain_ev (s : ByteArray) (hs : s.size ≤ 140737488351232) : Ev (fun k => spec_Plain.f k s) (plainB (bytesOf s)) := by
  refine str_loop s (fun i k => spec_Plain.l0 k s (i : Int)) plainB ?_ ?_ hs 0
  · intro i hi
    apply ev_succ; simp only [spec_Plain.l0, if_neg (show ¬ (i : Int) < s.size by omega)]; exact Ev.now _
  · intro i c r h hb hi hw hw1 ih
    apply ev_succ
    simp only [spec_Plain.l0, if_pos (show (i : Int) < s.size by omega), if_pos (show (0 : Int) ≤ i by omega), hb, hw, l1In_eq, Option.bind_some, hw1]
    refine ev_ite (fun h => ?_) (fun h => ?_)
    · have : plainC c = true := h
      simpa [plainB, this] using ih
    · have : plainC c = false := by simpa [plainC] using h
      simpa [plainB, this] using Ev.now _

theorem in_eq (c a b : Int) : impl_in.f c a b = some (decide (a ≤ c) && decide (c ≤ b)) := by
  unfold impl_in.f; split <;> simp [*] <;> omega

def lenB (s : ByteArray) (a b : Int) : Bool := decide (a ≤ (s.size : Int)) && decide ((s.size : Int) ≤ b)

theorem dots1 (s : ByteArray) : s.toList = ([46] : List UInt8) ↔ bytesOf s = [46] := lit_iff s [46]
theorem dots2 (s : ByteArray) : s.toList = ([46, 46] : List UInt8) ↔ bytesOf s = [46, 46] := lit_iff s [46, 46]
/-- a name -/
noncomputable def nameOk (s : ByteArray) : Bool := lenB s 1 8 && (plainB (bytesOf s) && (!decb ((47 : Int) ∈ bytesOf s) && (!decb (bytesOf s = [46]) && !decb (bytesOf s = [46, 46]))))
theorem impl_NameOk_ev (s : ByteArray) (hs : s.size ≤ 140737488351232) : Ev (fun k => impl_NameOk.f k s) (nameOk s) := by
  unfold impl_NameOk.f nameOk
  simp only [in_eq, Option.bind_some]
  refine ev_iteB (fun q => ?_) (fun q => ?_)
  · rw [show lenB s 1 8 = true from q, Bool.true_and]
    refine Ev.bind (impl_Plain_ev s hs) (ev_iteB (fun q1 => ?_) (fun q1 => ?_))
    · rw [q1, Bool.true_and]
      have e0 : strings_Contains.f s (⟨#[47]⟩ : ByteArray) = some (decide (0 ≤ Lib.indexByte s.data.toList 47)) := rfl
      have e1 : (0 ≤ Lib.indexByte s.data.toList 47) ↔ (47 : Int) ∈ bytesOf s := (indexByte_mem _ _).trans (mem_bytes s 47)
      simp only [e0, Option.bind_some]
      refine ev_iteB (fun q2 => ?_) (fun q2 => ?_)
      · rw [decb_true (e1.mp (of_decide_eq_true q2))]; exact Ev.now _
      · rw [decb_false (fun h => of_decide_eq_false q2 (e1.mpr h)), Bool.not_false, Bool.true_and]
        refine ev_ite (fun q3 => ?_) (fun q3 => ?_)
        · rw [decb_true ((dots1 s).mp q3)]; exact Ev.now _
        · rw [decb_false (fun h => q3 ((dots1 s).mpr h)), Bool.not_false, Bool.true_and]
          have : (s.toList != ([46, 46] : List UInt8)) = !decb (bytesOf s = [46, 46]) := by
            by_cases h : s.toList = [46, 46]
            · rw [decb_true ((dots2 s).mp h), h]; rfl
            · rw [decb_false (fun h2 => h ((dots2 s).mpr h2))]; simpa using h
          rw [this]; exact Ev.now _
    · rw [q1, Bool.false_and]; exact Ev.now _
  · rw [show lenB s 1 8 = false from q, Bool.false_and]; exact Ev.now _
theorem spec_NameOk_ev (s : ByteArray) (hs : s.size ≤ 140737488351232) : Ev (fun k => spec_NameOk.f k s) (nameOk s) := by
  have H := str_loop_st s (fun i (_ : Unit) k => spec_NameOk.l0 k s (i : Int)) (fun i _ r => !decb ((47 : Int) ∈ r) && (lenB s 1 8 && (plainB (bytesOf s) && (!decb (bytesOf s = [46]) && !decb (bytesOf s = [46, 46]))))) (fun _ _ _ => True) ?_ ?_ hs 0 () trivial
  · have e : nameOk s = (!decb ((47 : Int) ∈ bytesOf s) && (lenB s 1 8 && (plainB (bytesOf s) && (!decb (bytesOf s = [46]) && !decb (bytesOf s = [46, 46]))))) := by
      unfold nameOk
      cases lenB s 1 8 <;> cases plainB (bytesOf s) <;> cases decb ((47 : Int) ∈ bytesOf s) <;> simp
    rw [e]; exact H
  · intro i _ _ hi
    rw [decb_false (by simp), Bool.not_false, Bool.true_and]
    apply ev_succ
    simp only [spec_NameOk.l0, if_neg (show ¬ (i : Int) < s.size by omega), l1In_eq, Option.bind_some]
    refine ev_iteB (fun q => ?_) (fun q => ?_)
    · rw [show lenB s 1 8 = true from q, Bool.true_and]
      refine Ev.bind (spec_Plain_ev s hs) (ev_iteB (fun q1 => ?_) (fun q1 => ?_))
      · rw [q1, Bool.true_and]
        refine ev_ite (fun q3 => ?_) (fun q3 => ?_)
        · rw [decb_true ((dots1 s).mp q3)]; exact Ev.now _
        · rw [decb_false (fun h => q3 ((dots1 s).mpr h)), Bool.not_false, Bool.true_and]
          have : (s.toList != ([46, 46] : List UInt8)) = !decb (bytesOf s = [46, 46]) := by
            by_cases h : s.toList = [46, 46]
            · rw [decb_true ((dots2 s).mp h), h]; rfl
            · rw [decb_false (fun h2 => h ((dots2 s).mpr h2))]; simpa using h
          rw [this]; exact Ev.now _
      · rw [q1, Bool.false_and]; exact Ev.now _
    · rw [show lenB s 1 8 = false from q, Bool.false_and]; exact Ev.now _
  · intro i _ c r _ h hb hi hw hw1 ih
    apply ev_succ
    simp only [spec_NameOk.l0, if_pos (show (i : Int) < s.size by omega), if_pos (show (0 : Int) ≤ i by omega), hb, hw1]
    refine ev_ite (fun q => ?_) (fun q => ?_)
    · subst q; rw [decb_true (by simp), Bool.not_true, Bool.false_and]; exact Ev.now _
    · have e : decb ((47 : Int) ∈ c :: r) = decb ((47 : Int) ∈ r) := by
        rw [Bool.eq_iff_iff, decb_iff, decb_iff, List.mem_cons]
        exact ⟨fun h => h.elim (fun e => absurd e.symm q) id, .inr⟩
      rw [e]; exact ih () trivial

/-- a path -/
noncomputable def pathOk (p : List ByteArray) : Bool := p.all nameOk && decide ((p.length : Int) ≤ 4)
theorem impl_PathOk_ev (p : List ByteArray) (hl : p.length ≤ 9223372036854775806) (hp : ∀ x ∈ p, x.size ≤ 140737488351232) : Ev (fun k => impl_PathOk.f k p) (pathOk p) := by
  refine list_loop_st p hl (fun i (_ : Unit) k => impl_PathOk.l0 k p p (p.length : Int) (i : Int)) (fun _ _ r => r.all nameOk && decide ((p.length : Int) ≤ 4)) (fun _ _ r => ∀ x ∈ r, x.size ≤ 140737488351232) ?_ ?_ 0 () hp
  · intro i _ _ hi
    apply ev_succ; simp only [impl_PathOk.l0, if_neg (show ¬ (i : Int) < p.length by omega)]; exact Ev.now _
  · intro i _ c r hr h hb hi hw1 ih
    have hbb : rdOf ByteArray.empty p (i : Int) = c := hb _
    apply ev_succ
    simp only [impl_PathOk.l0, if_pos (show (i : Int) < p.length by omega), if_pos (show (0 : Int) ≤ i by omega), hbb, hw1]
    refine Ev.bind (impl_NameOk_ev c (hr c (by simp))) (ev_iteB (fun q => ?_) (fun q => ?_))
    · rw [List.all_cons, q, Bool.true_and]; exact ih () (fun x hx => hr x (by simp [hx]))
    · rw [List.all_cons, q, Bool.false_and, Bool.false_and]; exact Ev.now _
theorem spec_PathOk_ev (p : List ByteArray) (hl : p.length ≤ 9223372036854775806) (hp : ∀ x ∈ p, x.size ≤ 140737488351232) : Ev (fun k => spec_PathOk.f k p) (pathOk p) := by
  refine list_loop_st p hl (fun i (_ : Unit) k => spec_PathOk.l0 k p (i : Int)) (fun _ _ r => r.all nameOk && decide ((p.length : Int) ≤ 4)) (fun _ _ r => ∀ x ∈ r, x.size ≤ 140737488351232) ?_ ?_ 0 () hp
  · intro i _ _ hi
    apply ev_succ; simp only [spec_PathOk.l0, if_neg (show ¬ (i : Int) < p.length by omega)]; exact Ev.now _
  · intro i _ c r hr h hb hi hw1 ih
    have hbb : rdOf ByteArray.empty p (i : Int) = c := hb _
    apply ev_succ
    simp only [spec_PathOk.l0, if_pos (show (i : Int) < p.length by omega), if_pos (show (0 : Int) ≤ i by omega), hbb, hw1]
    refine Ev.bind (spec_NameOk_ev c (hr c (by simp))) (ev_iteB (fun q => ?_) (fun q => ?_))
    · rw [List.all_cons, q, Bool.true_and]; exact ih () (fun x hx => hr x (by simp [hx]))
    · rw [List.all_cons, q, Bool.false_and, Bool.false_and]; exact Ev.now _

theorem unq_len : ∀ (n : Nat) (l r : List Int), l.length ≤ n → unq l = some r → r.length ≤ l.length ∧ (r = [] → l = [])
  | 0, l, r, h, e => by
    have : l = [] := List.eq_nil_of_length_eq_zero (by omega)
    subst this
    simp [unq] at e
    subst e; simp
  | n + 1, l, r, h, e => by
    match l with
    | [] => simp [unq] at e; subst e; simp
    | c :: t =>
      by_cases q : c = 37
      · subst q
        match t with
        | [] => rw [unq_short _ (by simp)] at e; cases e
        | [a] => rw [unq_short _ (by simp)] at e; cases e
        | a :: b :: u =>
          by_cases q1 : hexC a < 0 ∨ hexC b < 0
          · rw [unq_bad a b u q1] at e; cases e
          · rw [unq_good a b u q1] at e
            obtain ⟨r', h1, h2⟩ := Option.map_eq_some_iff.1 e
            have := unq_len n u r' (by simp at h; omega) h1
            subst h2
            simp; omega
      · rw [unq_plain c t q] at e
        obtain ⟨r', h1, h2⟩ := Option.map_eq_some_iff.1 e
        have := unq_len n t r' (by simp at h; omega) h1
        subst h2
        simp; omega
theorem unquote_len (s : ByteArray) : (unquote s).1.size ≤ s.size := by
  unfold unquote
  cases h : unq (bytesOf s) with
  | none => exact Nat.zero_le _
  | some r =>
    have := unq_len _ _ r (Nat.le_refl _) h
    rw [bytesOf_length] at this
    simp only [unqR, List.nil_append, strOfNums_size]
    exact this.1
theorem unquote_nil (s : ByteArray) (h : (unquote s).2 = true) (h0 : (unquote s).1.toList = ([] : List UInt8)) : s.toList = ([] : List UInt8) := by
  unfold unquote at h h0
  cases hq : unq (bytesOf s) with
  | none => rw [hq] at h; simp [unqR] at h
  | some r =>
    rw [hq] at h0
    simp only [unqR, List.nil_append] at h0
    rw [Lib.toList_data, strOfNums_data] at h0
    have hr : r = [] := by simpa using h0
    have := (unq_len _ _ r (Nat.le_refl _) hq).2 hr
    rw [Lib.toList_data, data_bytes, this]; rfl
/-- the names of a path, part by part; none: it is no path -/
noncomputable def goI : List ByteArray → List ByteArray → Option (List ByteArray)
  | out, [] => some out
  | out, p :: ps => if (unquote p).2 = true then (if (unquote p).1.toList = ([] : List UInt8) then none else if (unquote p).1.toList = ([46, 46] : List UInt8) then (if out.length = 0 then none else goI (out.take (out.length - 1)) ps) else if (unquote p).1.toList = ([46] : List UInt8) then goI out ps else goI (out ++ [(unquote p).1]) ps) else none
noncomputable def pres : Option (List ByteArray) → List ByteArray × Bool
  | none => ([], false)
  | some out => if pathOk out = true then (out, true) else ([], false)
theorem impl_ParsePath_l0 (l : List ByteArray) (hl : l.length ≤ 1048577) (hp : ∀ x ∈ l, x.size ≤ 1048576) : Ev (fun k => impl_ParsePath.l0 k [] l (l.length : Int) 0) (pres (goI [] l)) := by
  have key := list_loop_st l (by omega) (fun i (out : List ByteArray) k => impl_ParsePath.l0 k out l (l.length : Int) (i : Int)) (fun _ out r => pres (goI out r)) (fun i out r => out.length ≤ i ∧ (∀ x ∈ out, x.size ≤ 1048576) ∧ (∀ x ∈ r, x.size ≤ 1048576) ∧ i + r.length = l.length) ?_ ?_ 0 [] ⟨by simp, by simp, hp, by simp⟩
  · simpa using key
  · intro i out ⟨h1, h2, _, h4⟩ hi
    rw [List.length_nil] at h4
    have a1 : ¬ (i : Int) < (l.length : Int) := by omega
    apply ev_succ
    simp only [impl_ParsePath.l0, if_neg a1]
    refine Ev.bind (impl_PathOk_ev out (by omega) (fun x hx => by have := h2 x hx; omega)) ?_
    simp only [goI, pres]
    exact ev_iteB (fun q => by rw [if_pos q]; exact Ev.now _) (fun q => by rw [if_neg (by simp [q])]; exact Ev.now _)
  · intro i out c r ⟨h1, h2, h3, h4⟩ h hb hi hw1 ih
    rw [List.length_cons] at h4
    have h5 : i + 1 + r.length = l.length := by omega
    have hbb : rdOf ByteArray.empty l (i : Int) = c := hb _
    have a1 : (i : Int) < (l.length : Int) := by omega
    have a2 : (0 : Int) ≤ (i : Int) := by omega
    have hcs : c.size ≤ 1048576 := h3 c (by simp)
    have hr : ∀ x ∈ r, x.size ≤ 1048576 := fun x hx => h3 x (by simp [hx])
    have hus := unquote_len c
    have hu : (unquote c).1.size ≤ 1048576 := Nat.le_trans hus hcs
    have bad : ∀ x : ByteArray, Ev (fun k => impl_ParsePath.j2 k out l x (l.length : Int) (i : Int) true) (([] : List ByteArray), false) := by
      intro x; apply ev_succ; simp only [impl_ParsePath.j2, if_true]; exact Ev.now _
    apply ev_succ
    simp only [impl_ParsePath.l0, if_pos a1, if_pos a2, hbb]
    refine Ev.bind (impl_Unquote_ev c (by omega)) ?_
    simp only [goI]
    refine ev_iteB (fun q => ?_) (fun q => ?_)
    · rw [if_pos q]
      refine ev_ite (fun q1 => ?_) (fun q1 => ?_)
      · rw [if_pos q1]; exact bad _
      · rw [if_neg q1]
        refine ev_ite (fun q2 => ?_) (fun q2 => ?_)
        · rw [if_pos q2]
          by_cases q3 : out.length = 0
          · rw [if_pos q3, show ((out.length : Int) == 0) = true by simp [q3]]
            exact bad _
          · rw [if_neg q3, show ((out.length : Int) == 0) = false by simp [q3]]
            have hw : wrap64 ((out.length : Int) - 1) = ((out.length - 1 : Nat) : Int) := by rw [wrap_id (by omega) (by omega)]; omega
            have b1 : (0 : Int) ≤ ((out.length - 1 : Nat) : Int) := by omega
            have b2 : ((out.length - 1 : Nat) : Int) ≤ (out.length : Int) := by omega
            apply ev_succ
            simp only [impl_ParsePath.j2, Bool.false_eq_true, if_false, if_pos q2, hw, if_pos b1, if_pos b2, hw1, Int.toNat_natCast]
            exact ih (out.take (out.length - 1)) ⟨by rw [List.length_take]; omega, fun x hx => h2 x (List.mem_of_mem_take hx), hr, h5⟩
        · rw [if_neg q2]
          apply ev_succ
          simp only [impl_ParsePath.j2, Bool.false_eq_true, if_false, if_neg q2, hw1]
          refine ev_ite (fun q4 => ?_) (fun q4 => ?_)
          · rw [if_pos q4]
            exact ih out ⟨by omega, h2, hr, h5⟩
          · rw [if_neg q4]
            have b3 : out.length < 8796093022208 := by omega
            simp only [if_pos b3]
            exact ih (out ++ [(unquote c).1]) ⟨by simp; omega, fun x hx => by
              rcases List.mem_append.1 hx with hx | hx
              · exact h2 x hx
              · simp at hx; rw [hx]; exact hu, hr, h5⟩
    · rw [if_neg (by simp [q])]
      exact bad _

/-- the names of a path, as the reference takes them -/
noncomputable def goS : List ByteArray → List ByteArray → Option (List ByteArray)
  | out, [] => some out
  | out, p :: ps => if (unquote p).2 = true then (if (unquote p).1.toList = ([] : List UInt8) then (if ps ≠ [] then none else goS out ps) else if (unquote p).1.toList = ([46, 46] : List UInt8) then (if out.length = 0 then none else goS (out.take (out.length - 1)) ps) else if (unquote p).1.toList = ([46] : List UInt8) then goS out ps else goS (out ++ [(unquote p).1]) ps) else none
theorem spec_ParsePath_l0 (l : List ByteArray) (hl : l.length ≤ 1048577) (hp : ∀ x ∈ l, x.size ≤ 1048576) : Ev (fun k => spec_ParsePath.l0 k [] l 0) (pres (goS [] l)) := by
  have key := list_loop_st l (by omega) (fun i (out : List ByteArray) k => spec_ParsePath.l0 k out l (i : Int)) (fun _ out r => pres (goS out r)) (fun i out r => out.length ≤ i ∧ (∀ x ∈ out, x.size ≤ 1048576) ∧ (∀ x ∈ r, x.size ≤ 1048576) ∧ i + r.length = l.length) ?_ ?_ 0 [] ⟨by simp, by simp, hp, by simp⟩
  · simpa using key
  · intro i out ⟨h1, h2, _, h4⟩ hi
    rw [List.length_nil] at h4
    have a1 : ¬ (i : Int) < (l.length : Int) := by omega
    apply ev_succ
    simp only [spec_ParsePath.l0, if_neg a1]
    refine Ev.bind (spec_PathOk_ev out (by omega) (fun x hx => by have := h2 x hx; omega)) ?_
    simp only [goS, pres]
    exact ev_iteB (fun q => by rw [if_pos q]; exact Ev.now _) (fun q => by rw [if_neg (by simp [q])]; exact Ev.now _)
  · intro i out c r ⟨h1, h2, h3, h4⟩ h hb hi hw1 ih
    rw [List.length_cons] at h4
    have h5 : i + 1 + r.length = l.length := by omega
    have hbb : rdOf ByteArray.empty l (i : Int) = c := hb _
    have a1 : (i : Int) < (l.length : Int) := by omega
    have a2 : (0 : Int) ≤ (i : Int) := by omega
    have hwl : wrap64 ((l.length : Int) - 1) = ((l.length - 1 : Nat) : Int) := by rw [wrap_id (by omega) (by omega)]; omega
    have hcs : c.size ≤ 1048576 := h3 c (by simp)
    have hr : ∀ x ∈ r, x.size ≤ 1048576 := fun x hx => h3 x (by simp [hx])
    have hus := unquote_len c
    have hu : (unquote c).1.size ≤ 1048576 := Nat.le_trans hus hcs
    have bad : ∀ x : ByteArray, Ev (fun k => spec_ParsePath.j2 k out l (i : Int) x true) (([] : List ByteArray), false) := by
      intro x; apply ev_succ; simp only [spec_ParsePath.j2, if_true]; exact Ev.now _
    apply ev_succ
    simp only [spec_ParsePath.l0, if_pos a1, if_pos a2, hbb, hwl]
    refine Ev.bind (spec_Unquote_ev c (by omega)) ?_
    simp only [goS]
    refine ev_iteB (fun q => ?_) (fun q => ?_)
    · rw [if_pos q]
      refine ev_ite (fun q1 => ?_) (fun q1 => ?_)
      · rw [if_pos q1]
        refine ev_ite (fun q2 => ?_) (fun q2 => ?_)
        · have : r ≠ [] := by intro e; rw [e] at h5; simp at h5; omega
          rw [if_pos this]; exact bad _
        · have : r = [] := List.eq_nil_of_length_eq_zero (by omega)
          have q3 : ¬ (unquote c).1.toList = ([46, 46] : List UInt8) := by rw [q1]; simp
          simp only [if_neg q3]
          rw [if_neg (by simp [this])]
          apply ev_succ
          simp only [spec_ParsePath.j2, Bool.false_eq_true, if_false, if_pos q1]
          apply ev_succ
          simp only [spec_ParsePath.j3, if_true, hw1]
          exact ih out ⟨by omega, h2, hr, h5⟩
      · rw [if_neg q1]
        refine ev_ite (fun q2 => ?_) (fun q2 => ?_)
        · rw [if_pos q2]
          by_cases q3 : out.length = 0
          · rw [if_pos q3, show ((out.length : Int) == 0) = true by simp [q3]]
            exact bad _
          · rw [if_neg q3, show ((out.length : Int) == 0) = false by simp [q3]]
            have hw : wrap64 ((out.length : Int) - 1) = ((out.length - 1 : Nat) : Int) := by rw [wrap_id (by omega) (by omega)]; omega
            have b1 : (0 : Int) ≤ ((out.length - 1 : Nat) : Int) := by omega
            have b2 : ((out.length - 1 : Nat) : Int) ≤ (out.length : Int) := by omega
            have q4 : ((unquote c).1.toList == ([46] : List UInt8)) = false := by rw [q2]; rfl
            apply ev_succ
            simp only [spec_ParsePath.j2, Bool.false_eq_true, if_false, if_neg q1, q4]
            apply ev_succ
            simp only [spec_ParsePath.j3, Bool.false_eq_true, if_false, if_pos q2, hw, if_pos b1, if_pos b2, hw1, Int.toNat_natCast]
            exact ih (out.take (out.length - 1)) ⟨by rw [List.length_take]; omega, fun x hx => h2 x (List.mem_of_mem_take hx), hr, h5⟩
        · rw [if_neg q2]
          apply ev_succ
          simp only [spec_ParsePath.j2, Bool.false_eq_true, if_false, if_neg q1]
          apply ev_succ
          by_cases q4 : (unquote c).1.toList = ([46] : List UInt8)
          · rw [if_pos q4]
            simp only [q4, spec_ParsePath.j3, beq_self_eq_true, if_true, hw1]
            exact ih out ⟨by omega, h2, hr, h5⟩
          · rw [if_neg q4]
            have b3 : out.length < 8796093022208 := by omega
            simp only [beq_eq_false_iff_ne.2 q4, spec_ParsePath.j3, Bool.false_eq_true, if_false, if_neg q2, if_pos b3, hw1]
            exact ih (out ++ [(unquote c).1]) ⟨by simp; omega, fun x hx => by
              rcases List.mem_append.1 hx with hx | hx
              · exact h2 x hx
              · simp at hx; rw [hx]; exact hu, hr, h5⟩
    · rw [if_neg (by simp [q])]
      exact bad _

/-- the parts without an empty last one -/
noncomputable def trimP : List ByteArray → List ByteArray
  | [] => []
  | [p] => if p.toList = ([] : List UInt8) then [] else [p]
  | p :: q :: r => p :: trimP (q :: r)
theorem unquote_empty (p : ByteArray) (h : p.toList = ([] : List UInt8)) : unquote p = (⟨#[]⟩, true) := by
  have h0 : bytesOf p = [] := by
    rw [Lib.toList_data, data_bytes] at h
    simpa using h
  unfold unquote
  rw [h0]; rfl
theorem goS_goI : ∀ (ps out : List ByteArray), goS out ps = goI out (trimP ps)
  | [], out => rfl
  | [p], out => by
    by_cases h : p.toList = ([] : List UInt8)
    · simp only [trimP, if_pos h, goS, goI, unquote_empty p h]
      simp
    · have hn : (unquote p).2 = true → ¬ (unquote p).1.toList = ([] : List UInt8) := fun h1 h2 => h (unquote_nil p h1 h2)
      simp only [trimP, if_neg h, goS, goI]
      by_cases q : (unquote p).2 = true
      · simp only [if_pos q, if_neg (hn q)]
      · simp only [if_neg q]
  | p :: q :: r, out => by
    rw [trimP]
    simp only [goS, goI]
    have ih := fun o => goS_goI (q :: r) o
    simp only [goS] at ih
    by_cases h : (unquote p).2 = true
    · simp only [if_pos h, ne_eq, reduceCtorEq, not_false_eq_true, if_true, ih]
    · simp only [if_neg h]

theorem trimP_eq : ∀ (l : List ByteArray) (h : l ≠ []), trimP l = if (l.getLast h).toList = ([] : List UInt8) then l.take (l.length - 1) else l
  | [p], _ => by simp [trimP]
  | p :: q :: r, hx => by
    have e : (p :: q :: r).getLast hx = (q :: r).getLast (by simp) := List.getLast_cons_cons
    rw [trimP, trimP_eq (q :: r) (by simp)]
    by_cases h : ((p :: q :: r).getLast hx).toList = ([] : List UInt8)
    · rw [if_pos h, if_pos (e ▸ h)]; simp
    · rw [if_neg h, if_neg (e ▸ h)]
theorem rdOf_last (l : List ByteArray) (h : l ≠ []) : rdOf ByteArray.empty l ((l.length - 1 : Nat) : Int) = l.getLast h := by
  have h0 : l.length - 1 < l.length := by have := List.length_pos_iff.2 h; omega
  show l.getD ((l.length - 1 : Nat) : Int).toNat ByteArray.empty = _
  rw [Int.toNat_natCast, List.getLast_eq_getElem, List.getD, List.getElem?_eq_getElem h0]; rfl

theorem first_byte {s : ByteArray} (h : 0 < s.size) : ∃ c r, bytesOf s = c :: r ∧ bt s 0 = c ∧ 0 ≤ c ∧ c < 256 := by
  match hm : bytesOf s with
  | [] =>
    have := congrArg List.length hm
    rw [bytesOf_length, List.length_nil] at this
    omega
  | c :: r =>
    have hd : (bytesOf s).drop 0 = c :: r := hm
    have hr := bytesOf_range s c (by rw [hm]; simp)
    exact ⟨c, r, rfl, (bt_drop hd).1, hr.1, hr.2⟩
theorem hasPrefix47 (s : ByteArray) : strings_HasPrefix.f s (⟨#[47]⟩ : ByteArray) = some (decide (0 < s.size ∧ bt s 0 = 47)) := by
  unfold strings_HasPrefix.f
  congr 1
  rw [data_bytes s]
  rcases Nat.eq_zero_or_pos s.size with h | h
  · have h0 : bytesOf s = [] := List.eq_nil_of_length_eq_zero (by rw [bytesOf_length]; exact h)
    rw [h0, decide_eq_false (by omega)]; rfl
  · obtain ⟨c, r, h1, h2, h3, h4⟩ := first_byte h
    rw [h1, h2]
    show ((47 : UInt8) == UInt8.ofNat c.toNat && List.isPrefixOf [] (r.map fun n => UInt8.ofNat n.toNat)) = _
    rw [show ((47 : UInt8) == UInt8.ofNat c.toNat) = decide (c = (47 : Nat)) from u8_eq h3 h4 47 (by omega)]
    rw [show List.isPrefixOf [] (r.map fun n => UInt8.ofNat n.toNat) = true by cases r <;> rfl, Bool.and_true]
    exact decide_eq_decide.2 ⟨fun e => ⟨h, e⟩, fun e => e.2⟩
theorem splA_ne : ∀ (l cur : List Int), splA cur l ≠ []
  | [], cur => by simp [splA]
  | c :: r, cur => by
    unfold splA
    split
    · simp
    · exact splA_ne r _
theorem splA_len : ∀ (l cur : List Int), (splA cur l).length ≤ l.length + 1
  | [], cur => by simp [splA]
  | c :: r, cur => by
    unfold splA
    split
    · have := splA_len r []; simp; omega
    · have := splA_len r (cur ++ [c]); simp; omega
theorem splA_part : ∀ (l cur : List Int), ∀ x ∈ splA cur l, x.length ≤ cur.length + l.length
  | [], cur, x, h => by simp [splA] at h; subst h; simp
  | c :: r, cur, x, h => by
    unfold splA at h
    split at h
    · rcases List.mem_cons.1 h with rfl | h
      · omega
      · have := splA_part r [] x h; simp at this ⊢; omega
    · have := splA_part r (cur ++ [c]) x h; simp at this ⊢; omega
theorem strOfNums_size (l : List Int) : (strOfNums l).size = l.length := by
  show (strOfNums l).data.size = _
  rw [← Array.length_toList, strOfNums_data, List.length_map]
theorem parts_ne (l : List Int) : parts l ≠ [] := by
  unfold parts
  simpa using splA_ne l []
theorem parts_len (l : List Int) : (parts l).length ≤ l.length + 1 := by
  unfold parts
  rw [List.length_map]; exact splA_len l []
theorem parts_size (l : List Int) : ∀ x ∈ parts l, x.size ≤ l.length := by
  intro x hx
  unfold parts at hx
  obtain ⟨y, hy, rfl⟩ := List.mem_map.1 hx
  have := splA_part l [] y hy
  rw [strOfNums_size]; simpa using this
noncomputable def pathV (s : ByteArray) : List ByteArray × Bool := if 0 < s.size ∧ bt s 0 = 47 then pres (goI [] (trimP (parts (bytesOf (s.extract 1 s.size))))) else ([], false)
theorem ex1_size (s : ByteArray) (h : s.size ≤ 1048576) : (s.extract 1 s.size).size ≤ 1048576 := by
  rw [ByteArray.size_extract]; omega
theorem impl_ParsePath_ev (s : ByteArray) (hs : s.size ≤ 1048576) : Ev (fun k => impl_ParsePath.f k s) (pathV s) := by
  have h1 := ex1_size s hs
  unfold impl_ParsePath.f pathV
  simp only [hasPrefix47, Option.bind_some]
  refine ev_iteB (fun q => ?_) (fun q => ?_)
  · rw [decide_eq_true_iff] at q
    rw [if_pos q]
    refine ev_ite (fun _ => ?_) (fun q1 => absurd (by omega) q1)
    have hsp : strings_Split.f (s.extract 1 s.size) (⟨#[47]⟩ : ByteArray) = some (parts (bytesOf (s.extract 1 s.size))) := by
      unfold strings_Split.f
      rw [if_pos ⟨by omega, by decide⟩, splitB_parts _ _ (Nat.le_refl _)]
    simp only [hsp, Option.bind_some]
    have hp0 := parts_ne (bytesOf (s.extract 1 s.size))
    have hp1 := parts_len (bytesOf (s.extract 1 s.size))
    have hp2 := parts_size (bytesOf (s.extract 1 s.size))
    rw [← size_len] at hp1 hp2
    generalize parts (bytesOf (s.extract 1 s.size)) = P at hp0 hp1 hp2
    have hP := List.length_pos_iff.2 hp0
    have hw : wrap64 ((P.length : Int) - 1) = ((P.length - 1 : Nat) : Int) := by rw [wrap_id (by omega) (by omega)]; omega
    simp only [hw, rdOf_last P hp0, Int.toNat_natCast]
    rw [trimP_eq P hp0]
    refine ev_ite (fun _ => ?_) (fun q1 => absurd (by omega) q1)
    refine ev_ite (fun _ => ?_) (fun q1 => absurd (by omega) q1)
    refine ev_ite (fun q2 => ?_) (fun q2 => ?_)
    · rw [if_pos q2]
      refine ev_ite (fun _ => ?_) (fun q1 => absurd (by omega) q1)
      apply ev_succ; simp only [impl_ParsePath.j0]
      exact impl_ParsePath_l0 _ (by rw [List.length_take]; omega) (fun x hx => Nat.le_trans (hp2 x (List.mem_of_mem_take hx)) h1)
    · rw [if_neg q2]
      apply ev_succ; simp only [impl_ParsePath.j0]
      exact impl_ParsePath_l0 _ (by omega) (fun x hx => Nat.le_trans (hp2 x hx) h1)
  · rw [decide_eq_false_iff_not] at q
    rw [if_neg q]; exact Ev.now _
theorem spec_ParsePath_ev (s : ByteArray) (hs : s.size ≤ 1048576) : Ev (fun k => spec_ParsePath.f k s) (pathV s) := by
  have h1 := ex1_size s hs
  unfold spec_ParsePath.f pathV
  simp only [Option.bind_some]
  refine ev_ite (fun q => ?_) (fun q => ?_)
  · rw [if_neg (by omega)]
    apply ev_succ; simp only [spec_ParsePath.j0, if_true]; exact Ev.now _
  · refine ev_ite (fun _ => ?_) (fun q1 => absurd (by omega) q1)
    apply ev_succ; simp only [spec_ParsePath.j0]
    refine ev_iteB (fun q2 => ?_) (fun q2 => ?_)
    · have : ¬ bt s 0 = 47 := by simpa using q2
      rw [if_neg (fun h => this h.2)]; exact Ev.now _
    · have : bt s 0 = 47 := by simpa using q2
      rw [if_pos ⟨by omega, this⟩]
      refine ev_ite (fun _ => ?_) (fun q1 => absurd (by omega) q1)
      refine Ev.bind (spec_l2Split_ev _ h1) ?_
      have hp1 := parts_len (bytesOf (s.extract 1 s.size))
      have hp2 := parts_size (bytesOf (s.extract 1 s.size))
      rw [← size_len] at hp1 hp2
      rw [← goS_goI]
      exact spec_ParsePath_l0 _ (by omega) (fun x hx => Nat.le_trans (hp2 x hx) h1)
theorem goI_len : ∀ (ps out r : List ByteArray), goI out ps = some r → r.length ≤ out.length + ps.length
  | [], out, r, h => by simp [goI] at h; subst h; simp
  | p :: ps, out, r, h => by
    unfold goI at h
    split at h
    · split at h
      · cases h
      · split at h
        · split at h
          · cases h
          · have := goI_len ps _ r h; rw [List.length_take] at this; simp; omega
        · split at h
          · have := goI_len ps _ r h; simp; omega
          · have := goI_len ps _ r h; simp at this ⊢; omega
    · cases h
theorem trimP_len (l : List ByteArray) : (trimP l).length ≤ l.length := by
  by_cases h : l = []
  · subst h; simp [trimP]
  · rw [trimP_eq l h]
    split
    · rw [List.length_take]; omega
    · exact Nat.le_refl _
theorem pathV_len (s : ByteArray) (hs : s.size ≤ 1048576) : (pathV s).1.length ≤ 1048577 := by
  have h1 := ex1_size s hs
  have hp1 := parts_len (bytesOf (s.extract 1 s.size))
  rw [← size_len] at hp1
  have ht := trimP_len (parts (bytesOf (s.extract 1 s.size)))
  unfold pathV
  split
  · match hg : goI [] (trimP (parts (bytesOf (s.extract 1 s.size)))) with
    | none => simp [pres]
    | some r =>
      have := goI_len _ _ _ hg
      simp only [pres]
      simp at this
      split
      · show r.length ≤ _; omega
      · simp
  · simp

theorem isSmall_eq (c : Int) : impl_isSmall.f c = some (smallC c) := by
  unfold impl_isSmall.f smallC; split <;> simp [*] <;> omega

theorem isLarge_eq (c : Int) : impl_isLarge.f c = some (largeC c) := by
  unfold impl_isLarge.f largeC; split <;> simp [*] <;> omega

theorem l1Small_eq (c : Int) (h : wrap64 c = c) : spec_l1Small.f c = some (smallC c) := by
  unfold spec_l1Small.f; rw [h, l1In_eq]; rfl

theorem l1Large_eq (c : Int) (h : wrap64 c = c) : spec_l1Large.f c = some (largeC c) := by
  unfold spec_l1Large.f; rw [h, l1In_eq]; rfl

def freeC (c : Int) : Bool := smallC c || (largeC c || (digitC c || (decide (c = 45) || (decide (c = 46) || (decide (c = 95) || decide (c = 126))))))
def hexD (n : Int) : Int := if n < 10 then 48 + n else 55 + n
def quoC (c : Int) : List Int := if freeC c = true then [c] else [37, hexD (c / 16), hexD (c % 16)]
def quoL (l : List Int) : List Int := l.flatMap quoC
theorem quoC_len (c : Int) : (quoC c).length ≤ 3 := by unfold quoC; split <;> simp
theorem bits15 (c : Int) (h0 : 0 ≤ c) (h1 : c < 256) : Go.bits .and .u8 c 15 = c % 16 := by
  have H : ∀ n : Fin 256, Go.bits .and .u8 (n.val : Int) 15 = (n.val : Int) % 16 := by decide +kernel
  have := H ⟨c.toNat, by omega⟩
  have e : ((c.toNat : Nat) : Int) = c := by omega
  simpa only [e] using this
theorem digits_bt (n : Int) (h0 : 0 ≤ n) (h1 : n < 16) : bt (⟨#[48, 49, 50, 51, 52, 53, 54, 55, 56, 57, 65, 66, 67, 68, 69, 70]⟩ : ByteArray) n = hexD n := by
  have H : ∀ n : Fin 16, bt (⟨#[48, 49, 50, 51, 52, 53, 54, 55, 56, 57, 65, 66, 67, 68, 69, 70]⟩ : ByteArray) (n.val : Int) = hexD (n.val : Int) := by decide +kernel
  have := H ⟨n.toNat, by omega⟩
  have e : ((n.toNat : Nat) : Int) = n := by omega
  simpa only [e] using this
theorem index4 (c : Int) (h0 : 0 ≤ c) (h1 : c < 256) : (Lib.indexByte (⟨#[45, 46, 95, 126]⟩ : ByteArray).data.toList c.toNat.toUInt8 ≥ 0) ↔ (c = 45 ∨ c = 46 ∨ c = 95 ∨ c = 126) := by
  have H : ∀ n : Fin 256, (decide (Lib.indexByte (⟨#[45, 46, 95, 126]⟩ : ByteArray).data.toList n.val.toUInt8 ≥ 0)) = decide ((n.val : Int) = 45 ∨ (n.val : Int) = 46 ∨ (n.val : Int) = 95 ∨ (n.val : Int) = 126) := by decide +kernel
  have := H ⟨c.toNat, by omega⟩
  have e : ((c.toNat : Nat) : Int) = c := by omega
  simp only [e] at this
  exact decide_eq_decide.mp this
theorem impl_Quote_l0 {s : ByteArray} (hs : s.size ≤ 1048576) : ∀ (i : Nat) (x : List Int), x.length ≤ 3 * i → Ev (fun k => impl_Quote.l0 k s x (i : Int)) (strOfNums (x ++ quoL ((bytesOf s).drop i))) := by
  refine str_loop_st s (fun i x k => impl_Quote.l0 k s x (i : Int)) (fun i x r => strOfNums (x ++ quoL r)) (fun i x _ => x.length ≤ 3 * i) ?_ ?_ (by omega)
  · intro i x _ hi
    apply ev_succ; simp only [impl_Quote.l0, if_neg (show ¬ (i : Int) < s.size by omega)]
    simpa [quoL] using Ev.now (strOfNums x)
  · intro i x c r hx h hb hi hw hw1 ih
    have hc := bytesOf_range s c (List.mem_of_mem_drop (by rw [h]; simp : c ∈ (bytesOf s).drop i))
    have fin : ∀ y : List Int, y = quoC c → Ev (fun k => impl_Quote.l0 k s (x ++ y) ((i + 1 : Nat) : Int)) (strOfNums (x ++ quoL (c :: r))) := by
      intro y hy
      have h3 := quoC_len c
      have := ih (x ++ y) (by rw [List.length_append, hy]; omega)
      rw [List.append_assoc] at this
      simpa [quoL, hy] using this
    have g1 : x.length < 140737488355328 := by omega
    have g2 : x.length + (0 + 1 + 1 + 1) < 140737488355328 := by omega
    have d0 : 0 ≤ c / 16 := by omega
    have d1 : c / 16 < 16 := by omega
    have e0 : 0 ≤ c % 16 := by omega
    have e1 : c % 16 < 16 := by omega
    apply ev_succ
    simp only [impl_Quote.l0, if_pos (show (i : Int) < s.size by omega), if_pos (show (0 : Int) ≤ i by omega), hb, hw1, isSmall_eq, isLarge_eq, isDigit_eq, Option.bind_some, if_pos g1, strings_IndexByte.f, index4 c hc.1 hc.2, bits15 c hc.1 hc.2, if_pos d0, if_pos d1, if_pos e0, if_pos e1, digits_bt _ d0 d1, digits_bt _ e0 e1, List.length_cons, List.length_nil]
    refine ev_iteB (fun q => fin _ ?_) (fun q => ev_iteB (fun q0 => fin _ ?_) (fun q0 => ev_iteB (fun q1 => fin _ ?_) (fun q1 => ev_ite (fun q2 => fin _ ?_) (fun q2 => ?_))))
    · simp [quoC, freeC, q]
    · simp [quoC, freeC, q0]
    · simp [quoC, freeC, q1]
    · rcases q2 with rfl | rfl | rfl | rfl <;> rfl
    · simp only [if_pos g2]
      refine fin _ ?_
      have hf : freeC c = false := by
        simp only [freeC, q, q0, q1, Bool.false_or, Bool.or_eq_false_iff, decide_eq_false_iff_not]
        exact ⟨fun e => q2 (.inl e), fun e => q2 (.inr (.inl e)), fun e => q2 (.inr (.inr (.inl e))), fun e => q2 (.inr (.inr (.inr e)))⟩
      simp [quoC, hf]
theorem impl_Quote_ev (s : ByteArray) (hs : s.size ≤ 1048576) : Ev (fun k => impl_Quote.f k s) (strOfNums (quoL (bytesOf s))) := impl_Quote_l0 hs 0 [] (by simp)
theorem l2Free_eq (c : Int) (hw : wrap64 c = c) : spec_l2Free.f c = some (freeC c) := by
  simp only [spec_l2Free.f, l1Small_eq c hw, l1Large_eq c hw, l1Digit_eq c hw, Option.bind_some, freeC]
  cases smallC c <;> cases largeC c <;> cases digitC c <;> simp
  by_cases a : c = 45 <;> by_cases b : c = 46 <;> by_cases d : c = 95 <;> first | (simp [a, b, d]; done) | (simp [a, b, d]; rfl)
theorem l2Digit_eq (n : Int) (h0 : 0 ≤ n) (h1 : n < 16) : spec_l2Digit.f n = some (hexD n) := by
  unfold spec_l2Digit.f hexD
  split
  · rw [wrap_id (by omega) (by omega)]; congr 1; omega
  · rw [wrap_id (x := 65 + n) (by omega) (by omega), wrap_id (by omega) (by omega)]; congr 1; omega
theorem spec_Quote_l0 {s : ByteArray} (hs : s.size ≤ 1048576) : ∀ (i : Nat) (x : List Int), x.length ≤ 3 * i → Ev (fun k => spec_Quote.l0 k s x (i : Int)) (strOfNums (x ++ quoL ((bytesOf s).drop i))) := by
  refine str_loop_st s (fun i x k => spec_Quote.l0 k s x (i : Int)) (fun i x r => strOfNums (x ++ quoL r)) (fun i x _ => x.length ≤ 3 * i) ?_ ?_ (by omega)
  · intro i x _ hi
    apply ev_succ; simp only [spec_Quote.l0, if_neg (show ¬ (i : Int) < s.size by omega)]
    simpa [quoL] using Ev.now (strOfNums x)
  · intro i x c r hx h hb hi hw hw1 ih
    have hc := bytesOf_range s c (List.mem_of_mem_drop (by rw [h]; simp : c ∈ (bytesOf s).drop i))
    have fin : ∀ y : List Int, y = quoC c → Ev (fun k => spec_Quote.l0 k s (x ++ y) ((i + 1 : Nat) : Int)) (strOfNums (x ++ quoL (c :: r))) := by
      intro y hy
      have h3 := quoC_len c
      have := ih (x ++ y) (by rw [List.length_append, hy]; omega)
      rw [List.append_assoc] at this
      simpa [quoL, hy] using this
    have g1 : x.length < 140737488355328 := by omega
    have g2 : x.length + (0 + 1 + 1 + 1) < 140737488355328 := by omega
    have d1 : wrap64 (Int.tdiv c 16) = c / 16 := by rw [Int.tdiv_eq_ediv_of_nonneg hc.1, wrap_id (by omega) (by omega)]
    have d2 : Int.tmod c 16 = c % 16 := Int.tmod_eq_emod_of_nonneg hc.1
    apply ev_succ
    simp only [spec_Quote.l0, if_pos (show (i : Int) < s.size by omega), if_pos (show (0 : Int) ≤ i by omega), hb, hw1, hw, l2Free_eq c hw, Option.bind_some, if_pos g1, d1, d2, l2Digit_eq (c / 16) (by omega) (by omega), l2Digit_eq (c % 16) (by omega) (by omega), List.length_cons, List.length_nil, if_pos g2]
    refine ev_iteB (fun q => fin _ ?_) (fun q => fin _ ?_)
    · simp [quoC, q]
    · simp [quoC, q]
theorem spec_Quote_ev (s : ByteArray) (hs : s.size ≤ 1048576) : Ev (fun k => spec_Quote.f k s) (strOfNums (quoL (bytesOf s))) := spec_Quote_l0 hs 0 [] (by simp)

theorem quoL_len : ∀ l : List Int, (quoL l).length ≤ 3 * l.length
  | [] => by simp [quoL]
  | c :: r => by
    have h1 := quoC_len c
    have h2 := quoL_len r
    have e : quoL (c :: r) = quoC c ++ quoL r := by simp [quoL]
    rw [e, List.length_append, List.length_cons]
    omega
theorem sON_len (l : List Int) : (strOfNums l).size = l.length := by
  unfold strOfNums
  show (List.map _ l).toArray.size = _
  simp

def quoteB (x : ByteArray) : ByteArray := strOfNums (quoL (bytesOf x))
theorem quoteB_size (x : ByteArray) : (quoteB x).size ≤ 3 * x.size := by
  unfold quoteB
  rw [sON_len]
  have := quoL_len (bytesOf x)
  rwa [bytesOf_length] at this
def catQ : List ByteArray → ByteArray
  | [] => (⟨#[]⟩ : ByteArray)
  | x :: r => ((⟨#[47]⟩ : ByteArray) ++ quoteB x) ++ catQ r
theorem catQ_size : ∀ p : List ByteArray, (∀ x ∈ p, x.size ≤ 1048576) → (catQ p).size ≤ 4000000 * p.length
  | [], _ => by show 0 ≤ _; omega
  | x :: r, h => by
    have h1 := quoteB_size x
    have h2 := h x (by simp)
    have h3 := catQ_size r (fun y hy => h y (by simp [hy]))
    rw [catQ]
    simp only [ByteArray.size_append, List.length_cons, show (⟨#[47]⟩ : ByteArray).size = 1 from rfl]
    omega
theorem catQ_data : ∀ p : List ByteArray, (catQ p).data.toList = p.flatMap fun x => 47 :: (quoteB x).data.toList
  | [] => rfl
  | x :: r => by
    rw [catQ]
    simp only [ByteArray.data_append, Array.toList_append, catQ_data r, List.flatMap_cons]
    rfl
noncomputable def pathT (p : List ByteArray) : ByteArray := if (catQ p).toList = [] then (⟨#[47]⟩ : ByteArray) else catQ p
noncomputable def pathText (p : List ByteArray) : ByteArray := if pathOk p = true then pathT p else (⟨#[]⟩ : ByteArray)
theorem spec_PathText_l0 (p : List ByteArray) (hl : p.length ≤ 4) (hp : ∀ x ∈ p, x.size ≤ 1048576) : ∀ (l : List ByteArray) (i : Nat) (x : ByteArray), p.drop i = l → x.size + 4000000 * l.length ≤ 100000000 →
    Ev (fun k => spec_PathText.l0 k p x (i : Int)) (if (x ++ catQ l).toList = [] then (⟨#[47]⟩ : ByteArray) else x ++ catQ l)
  | [], i, x, h, hx => by
    have := List.drop_eq_nil_iff.1 h
    apply ev_succ
    have e : x ++ catQ [] = x := by rw [catQ]; exact ByteArray.append_empty
    simp only [spec_PathText.l0, if_neg (show ¬ (i : Int) < (p.length : Int) by omega), e]
    refine ev_ite (fun q => ?_) (fun q => ?_)
    · rw [if_pos q]; exact Ev.now _
    · rw [if_neg q]; exact Ev.now _
  | c :: r, i, x, h, hx => by
    obtain ⟨hb, hi, hd, hg⟩ := l_drop h
    have hbb : rdOf ByteArray.empty p (i : Int) = c := hb _
    have hc := hp c (List.mem_of_getElem? hg)
    have hq := quoteB_size c
    simp only [List.length_cons] at hx
    apply ev_succ
    simp only [spec_PathText.l0, if_pos (show (i : Int) < (p.length : Int) by omega), if_pos (show (0 : Int) ≤ (i : Int) by omega), hbb, wrap_id (x := (i : Int) + 1) (by omega) (by omega), if_pos (show x.size + 1 ≤ 9223372036854775807 by omega)]
    refine Ev.bind (spec_Quote_ev c hc) ?_
    change Ev (fun k => if (x ++ (⟨#[47]⟩ : ByteArray)).size + (quoteB c).size ≤ 9223372036854775807 then spec_PathText.l0 k p ((x ++ (⟨#[47]⟩ : ByteArray)) ++ quoteB c) ((i : Int) + 1) else none) _
    have e1 : (x ++ (⟨#[47]⟩ : ByteArray)).size = x.size + 1 := by rw [ByteArray.size_append]; rfl
    simp only [e1, if_pos (show x.size + 1 + (quoteB c).size ≤ 9223372036854775807 by omega)]
    have ih := spec_PathText_l0 p hl hp r (i + 1) ((x ++ (⟨#[47]⟩ : ByteArray)) ++ quoteB c) hd (by rw [ByteArray.size_append, e1]; omega)
    have e2 : (x ++ (⟨#[47]⟩ : ByteArray)) ++ quoteB c ++ catQ r = x ++ catQ (c :: r) := by rw [catQ]; simp only [ByteArray.append_assoc]
    rw [e2] at ih
    exact ih
theorem pathOk_len {p : List ByteArray} (h : pathOk p = true) : p.length ≤ 4 := by
  unfold pathOk at h
  simp at h
  omega
theorem spec_PathText_ev (p : List ByteArray) (hl : p.length ≤ 9223372036854775806) (hp : ∀ x ∈ p, x.size ≤ 1048576) : Ev (fun k => spec_PathText.f k p) (pathText p) := by
  unfold spec_PathText.f pathText
  refine Ev.bind (spec_PathOk_ev p hl (fun x hx => by have := hp x hx; omega)) (ev_iteB (fun q => ?_) (fun q => ?_))
  · rw [if_pos q]
    have h4 := pathOk_len q
    have := spec_PathText_l0 p h4 hp p 0 (⟨#[]⟩ : ByteArray) rfl (by show 0 + _ ≤ _; omega)
    rw [show (⟨#[]⟩ : ByteArray) ++ catQ p = catQ p from ByteArray.empty_append] at this
    exact this
  · rw [if_neg (by rw [q]; simp)]; exact Ev.now _
theorem join_cat (p : List ByteArray) : (⟨#[47]⟩ : ByteArray) ++ (⟨(Lib.join ((p.map quoteB).map (·.data.toList)) [47]).toArray⟩ : ByteArray) = pathT p := by
  apply ByteArray.ext
  apply Array.toList_inj.mp
  unfold pathT
  match p with
  | [] =>
    rw [if_pos (by rw [Lib.toList_data]; rfl)]
    rfl
  | x :: r =>
    rw [if_neg (by rw [Lib.toList_data, catQ_data]; simp), catQ_data]
    simp only [List.map_cons, Lib.join_cons, ByteArray.data_append, Array.toList_append, List.flatMap_cons]
    have e : Lib.joinTail [47] ((r.map quoteB).map (·.data.toList)) = r.flatMap fun x => 47 :: (quoteB x).data.toList := by
      unfold Lib.joinTail
      rw [List.map_map, List.map_map, List.flatMap]
      rfl
    rw [e]
    rfl
theorem impl_PathText_ev (p : List ByteArray) (hl : p.length ≤ 9223372036854775806) (hp : ∀ x ∈ p, x.size ≤ 1048576) : Ev (fun k => impl_PathText.f k p) (pathText p) := by
  unfold impl_PathText.f pathText
  refine Ev.bind (impl_PathOk_ev p hl (fun x hx => by have := hp x hx; omega)) (ev_iteB (fun q => ?_) (fun q => ?_))
  · rw [if_pos q]
    have h4 := pathOk_len q
    have hz : (catQ p).size ≤ 4000000 * p.length := catQ_size p hp
    have hjl : (Lib.join ((p.map quoteB).map (·.data.toList)) [47]).length ≤ 16000001 := by
      have h1 := congrArg ByteArray.size (join_cat p)
      rw [ByteArray.size_append] at h1
      have h2 : (pathT p).size ≤ 16000000 + 1 := by
        unfold pathT
        split
        · show 1 ≤ _; omega
        · omega
      have h3 : (⟨(Lib.join ((p.map quoteB).map (·.data.toList)) [47]).toArray⟩ : ByteArray).size = (Lib.join ((p.map quoteB).map (·.data.toList)) [47]).length := by
        show (List.toArray _).size = _
        simp
      omega
    have loop : ∀ (l : List ByteArray) (i : Nat), p.drop i = l → Ev (fun k => impl_PathText.l0 k ((p.take i).map quoteB) p (p.length : Int) (i : Int)) (pathT p) := by
      intro l
      induction l with
      | nil =>
        intro i h
        have hge := List.drop_eq_nil_iff.1 h
        apply ev_succ
        have ht : p.take i = p := List.take_of_length_le hge
        simp only [impl_PathText.l0, if_neg (show ¬ (i : Int) < (p.length : Int) by omega), ht]
        have hj : strings_Join.f (p.map quoteB) (⟨#[47]⟩ : ByteArray) = some (⟨(Lib.join ((p.map quoteB).map (·.data.toList)) [47]).toArray⟩ : ByteArray) := by
          unfold strings_Join.f
          exact if_pos ⟨by rw [List.length_map]; omega, by
            show (Lib.join ((p.map quoteB).map (·.data.toList)) [47]).length ≤ _
            omega⟩
        rw [hj]
        simp only [Option.bind_some]
        have h3 : (⟨(Lib.join ((p.map quoteB).map (·.data.toList)) [47]).toArray⟩ : ByteArray).size = (Lib.join ((p.map quoteB).map (·.data.toList)) [47]).length := by
          show (List.toArray _).size = _
          simp
        rw [if_pos (by rw [h3]; omega), join_cat]
        exact Ev.now _
      | cons c r ih =>
        intro i h
        obtain ⟨hb, hi, hd, hg⟩ := l_drop h
        have hbb : rdOf ByteArray.empty p (i : Int) = c := hb _
        have hc := hp c (List.mem_of_getElem? hg)
        apply ev_succ
        simp only [impl_PathText.l0, if_pos (show (i : Int) < (p.length : Int) by omega), if_pos (show (0 : Int) ≤ (i : Int) by omega), hbb, wrap_id (x := (i : Int) + 1) (by omega) (by omega)]
        refine Ev.bind (impl_Quote_ev c hc) ?_
        have hlen : ((p.take i).map quoteB).length < 8796093022208 := by rw [List.length_map, List.length_take]; omega
        simp only [if_pos hlen]
        have e : (p.take i).map quoteB ++ [quoteB c] = (p.take (i + 1)).map quoteB := by
          rw [List.take_succ_eq_append_getElem hi, List.map_append]
          have : p[i] = c := by rw [List.getElem?_eq_getElem hi] at hg; injection hg
          rw [this]; rfl
        have := ih (i + 1) hd
        rw [← e] at this
        exact this
    exact loop p 0 rfl
  · rw [if_neg (by rw [q]; simp)]; exact Ev.now _

theorem hexC_D (n : Int) (h0 : 0 ≤ n) (h1 : n < 16) : hexC (hexD n) = n := by
  unfold hexD hexC digitC
  split
  · rw [if_pos (by simp; omega)]; omega
  · rw [if_neg (by simp; omega), if_neg (by omega), if_pos (by omega)]; omega
theorem free_ne {c : Int} (h : freeC c = true) : c ≠ 37 ∧ plainC c = true := by
  unfold freeC smallC largeC digitC at h
  simp only [Bool.or_eq_true, Bool.and_eq_true, decide_eq_true_eq] at h
  exact ⟨by omega, by unfold plainC; simp; omega⟩
theorem quoC_range {c : Int} (h : 0 ≤ c ∧ c < 256) : ∀ x ∈ quoC c, (0 ≤ x ∧ x < 256) ∧ plainC x = true := by
  intro x hx
  unfold quoC at hx
  split at hx
  · rename_i q
    rw [List.mem_singleton.1 hx]
    exact ⟨h, (free_ne q).2⟩
  · have hd : ∀ n : Int, 0 ≤ n → n < 16 → (0 ≤ hexD n ∧ hexD n < 256) ∧ plainC (hexD n) = true := by
      intro n h0 h1
      unfold hexD plainC
      split <;> (simp; omega)
    simp only [List.mem_cons, List.not_mem_nil, or_false] at hx
    rcases hx with rfl | rfl | rfl
    · exact ⟨by omega, by decide⟩
    · exact hd _ (by omega) (by omega)
    · exact hd _ (by omega) (by omega)
theorem quoL_range {l : List Int} (h : ∀ x ∈ l, 0 ≤ x ∧ x < 256) : ∀ x ∈ quoL l, (0 ≤ x ∧ x < 256) ∧ plainC x = true := by
  intro x hx
  obtain ⟨c, hc, hx⟩ := List.mem_flatMap.1 hx
  exact quoC_range (h c hc) x hx
theorem unq_quo : ∀ l : List Int, (∀ x ∈ l, 0 ≤ x ∧ x < 256) → unq (quoL l) = some l
  | [], _ => rfl
  | c :: r, h => by
    have hc := h c (by simp)
    have ih := unq_quo r (fun x hx => h x (by simp [hx]))
    have e : quoL (c :: r) = quoC c ++ quoL r := by simp [quoL]
    rw [e]
    unfold quoC
    split
    · rename_i q
      rw [List.singleton_append, unq_plain c _ (free_ne q).1, ih]
      rfl
    · have h1 := hexC_D (c / 16) (by omega) (by omega)
      have h2 := hexC_D (c % 16) (by omega) (by omega)
      show unq (37 :: hexD (c / 16) :: hexD (c % 16) :: quoL r) = _
      rw [unq_good _ _ _ (by omega), ih, h1, h2]
      simp
      omega
theorem unquote_quote (s : ByteArray) : unquote (strOfNums (quoL (bytesOf s))) = (s, true) := by
  have hr := quoL_range (bytesOf_range s)
  unfold unquote
  rw [bytesOf_strOfNums _ (fun x hx => (hr x hx).1), unq_quo _ (bytesOf_range s)]
  show (strOfNums ([] ++ bytesOf s), true) = _
  rw [List.nil_append, strOfNums_bytesOf]
theorem plain_quote (s : ByteArray) : plainB (bytesOf (strOfNums (quoL (bytesOf s)))) = true := by
  have hr := quoL_range (bytesOf_range s)
  rw [bytesOf_strOfNums _ (fun x hx => (hr x hx).1)]
  exact List.all_eq_true.2 fun x hx => (hr x hx).2

theorem quoC_47 {c : Int} (h : 0 ≤ c ∧ c < 256) : ∀ x ∈ quoC c, x ≠ 47 := by
  intro x hx
  unfold quoC at hx
  split at hx
  · rename_i q
    rw [List.mem_singleton.1 hx]
    unfold freeC smallC largeC digitC at q
    simp only [Bool.or_eq_true, Bool.and_eq_true, decide_eq_true_eq] at q
    omega
  · have hd : ∀ n : Int, 0 ≤ n → hexD n ≠ 47 := by
      intro n h0
      unfold hexD
      split <;> omega
    simp only [List.mem_cons, List.not_mem_nil, or_false] at hx
    rcases hx with rfl | rfl | rfl
    · omega
    · exact hd _ (by omega)
    · exact hd _ (by omega)
theorem quoL_47 {l : List Int} (h : ∀ x ∈ l, 0 ≤ x ∧ x < 256) : ∀ x ∈ quoL l, x ≠ 47 := by
  intro x hx
  obtain ⟨c, hc, hx⟩ := List.mem_flatMap.1 hx
  exact quoC_47 (h c hc) x hx
theorem splA_app : ∀ (a cur r : List Int), (∀ x ∈ a, x ≠ 47) → splA cur (a ++ r) = splA (cur ++ a) r
  | [], cur, r, _ => by rw [List.nil_append, List.append_nil]
  | c :: a, cur, r, h => by
    have hc := h c (by simp)
    show splA cur (c :: (a ++ r)) = _
    rw [splA, if_neg hc, splA_app a (cur ++ [c]) r (fun x hx => h x (by simp [hx]))]
    congr 1
    simp
def flatP (p : List ByteArray) : List Int := p.flatMap fun x => 47 :: quoL (bytesOf x)
theorem splA_flat : ∀ (p : List ByteArray) (cur : List Int), splA cur (flatP p) = cur :: p.map (fun x => quoL (bytesOf x))
  | [], cur => rfl
  | x :: r, cur => by
    show splA cur (47 :: (quoL (bytesOf x) ++ flatP r)) = _
    rw [splA, if_pos rfl, splA_app _ [] _ (quoL_47 (bytesOf_range x)), List.nil_append, splA_flat r]
    rfl
theorem catQ_bytes : ∀ p : List ByteArray, bytesOf (catQ p) = flatP p
  | [] => rfl
  | x :: r => by
    rw [catQ, bytesOf_append, bytesOf_append, catQ_bytes r]
    rw [show bytesOf (quoteB x) = quoL (bytesOf x) from bytesOf_strOfNums _ (fun y hy => (quoL_range (bytesOf_range x) y hy).1)]
    rfl
theorem nameOk_facts {x : ByteArray} (h : nameOk x = true) : x.size ≤ 8 ∧ 1 ≤ x.size ∧ ¬ x.toList = ([] : List UInt8) ∧ ¬ x.toList = ([46] : List UInt8) ∧ ¬ x.toList = ([46, 46] : List UInt8) := by
  unfold nameOk at h
  simp only [Bool.and_eq_true, Bool.not_eq_true'] at h
  obtain ⟨h1, _, _, h2, h3⟩ := h
  unfold lenB at h1
  simp only [Bool.and_eq_true, decide_eq_true_eq] at h1
  refine ⟨by omega, by omega, fun e => ?_, fun e => ?_, fun e => ?_⟩
  · have := (lit_iff x []).1 e
    have h0 : (bytesOf x).length = 0 := by rw [this]; rfl
    rw [bytesOf_length] at h0
    omega
  · rw [decb_true ((dots1 x).1 e)] at h2; cases h2
  · rw [decb_true ((dots2 x).1 e)] at h3; cases h3
theorem pathOk_facts {p : List ByteArray} (h : pathOk p = true) : p.length ≤ 4 ∧ ∀ x ∈ p, nameOk x = true := by
  unfold pathOk at h
  simp only [Bool.and_eq_true, decide_eq_true_eq, List.all_eq_true] at h
  exact ⟨by omega, h.1⟩
theorem trimP_all : ∀ l : List ByteArray, (∀ x ∈ l, ¬ x.toList = ([] : List UInt8)) → trimP l = l
  | [], _ => rfl
  | [p], h => by rw [trimP, if_neg (h p (by simp))]
  | p :: q :: r, h => by rw [trimP, trimP_all (q :: r) (fun x hx => h x (by simp [List.mem_cons.1 hx]))]
theorem goI_quote : ∀ (p out : List ByteArray), (∀ x ∈ p, nameOk x = true) → goI out (p.map quoteB) = some (out ++ p)
  | [], out, _ => by simp [goI]
  | x :: r, out, h => by
    obtain ⟨_, _, h0, h1, h2⟩ := nameOk_facts (h x (by simp))
    have hu : unquote (quoteB x) = (x, true) := unquote_quote x
    rw [List.map_cons, goI, hu, if_pos rfl, if_neg h0, if_neg h2, if_neg h1, goI_quote r _ (fun y hy => h y (by simp [hy]))]
    simp
theorem quote_ne {x : ByteArray} (h : 1 ≤ x.size) : ¬ (quoteB x).toList = ([] : List UInt8) := by
  intro e
  have e1 := (lit_iff (quoteB x) []).1 e
  have hb : bytesOf (quoteB x) = quoL (bytesOf x) := bytesOf_strOfNums _ (fun y hy => (quoL_range (bytesOf_range x) y hy).1)
  rw [hb] at e1
  match hm : bytesOf x with
  | [] =>
    have h0 : (bytesOf x).length = 0 := by rw [hm]; rfl
    rw [bytesOf_length] at h0
    omega
  | c :: r =>
    rw [hm] at e1
    have e2 : quoL (c :: r) = quoC c ++ quoL r := by simp [quoL]
    rw [e2] at e1
    have : quoC c = [] := (List.append_eq_nil_iff.1 e1).1
    unfold quoC at this
    split at this <;> cases this
theorem pathV_pathT {p : List ByteArray} (h : pathOk p = true) : pathV (pathT p) = (p, true) := by
  obtain ⟨_, hn⟩ := pathOk_facts h
  match p, h, hn with
  | [], h, hn =>
    have e : pathT [] = (⟨#[47]⟩ : ByteArray) := by
      unfold pathT; rw [if_pos]; exact (lit_iff (catQ []) []).2 rfl
    rw [e]
    unfold pathV
    rw [if_pos ⟨by decide, by decide⟩]
    have e2 : bytesOf ((⟨#[47]⟩ : ByteArray).extract 1 (⟨#[47]⟩ : ByteArray).size) = [] := by rw [bytesOf_extract]; rfl
    rw [e2]
    have e3 : trimP (parts []) = [] := by
      show trimP [strOfNums []] = []
      rw [trimP, if_pos]
      exact (lit_iff _ []).2 rfl
    rw [e3]
    simp only [goI, pres]
    rw [if_pos h]
  | x :: r, h, hn =>
    have hx := nameOk_facts (hn x (by simp))
    have hb : bytesOf (catQ (x :: r)) = 47 :: (quoL (bytesOf x) ++ flatP r) := catQ_bytes (x :: r)
    have e : pathT (x :: r) = catQ (x :: r) := by
      unfold pathT; rw [if_neg]
      intro q
      have := (lit_iff _ []).1 q
      rw [hb] at this; cases this
    rw [e]
    have hs : 0 < (catQ (x :: r)).size := by rw [size_len, hb]; simp
    have h47 : bt (catQ (x :: r)) 0 = 47 := by
      obtain ⟨c, t, h1, h2, _⟩ := first_byte hs
      rw [hb] at h1
      rw [h2]
      exact (List.cons.inj h1).1.symm
    unfold pathV
    rw [if_pos ⟨hs, h47⟩]
    have hb1 : bytesOf ((catQ (x :: r)).extract 1 (catQ (x :: r)).size) = quoL (bytesOf x) ++ flatP r := by
      rw [bytesOf_extract, List.take_of_length_le (by rw [← size_len]; exact Nat.le_refl _), hb]; rfl
    have hp : parts (quoL (bytesOf x) ++ flatP r) = (x :: r).map quoteB := by
      unfold parts
      rw [splA_app _ [] _ (quoL_47 (bytesOf_range x)), List.nil_append, splA_flat r]
      simp [quoteB]
    rw [hb1, hp, trimP_all _ (by
      intro y hy
      obtain ⟨z, hz, rfl⟩ := List.mem_map.1 hy
      exact quote_ne (nameOk_facts (hn z hz)).2.1), goI_quote _ _ hn]
    simp only [pres, List.nil_append]
    rw [if_pos h]
theorem pathV_ok {s : ByteArray} (h : (pathV s).2 = true) : pathOk (pathV s).1 = true := by
  unfold pathV at h ⊢
  split at h
  · rename_i q
    rw [if_pos q]
    match hg : goI [] (trimP (parts (bytesOf (s.extract 1 s.size)))) with
    | none => rw [hg] at h; cases h
    | some r =>
      rw [hg] at h
      simp only [pres] at h ⊢
      by_cases k : pathOk r = true
      · rw [if_pos k]; exact k
      · rw [if_neg k] at h; cases h
  · cases h
theorem pathText_size {p : List ByteArray} : (pathText p).size ≤ 1000 := by
  unfold pathText
  split
  · rename_i h
    obtain ⟨h1, h2⟩ := pathOk_facts h
    have hc : ∀ (q : List ByteArray), (∀ x ∈ q, x.size ≤ 8) → (catQ q).size ≤ 25 * q.length := by
      intro q
      induction q with
      | nil => intro _; exact Nat.le_refl 0
      | cons x r ih =>
        intro h
        have a := quoteB_size x
        have b := h x (by simp)
        have c := ih (fun y hy => h y (by simp [hy]))
        rw [catQ]
        simp only [ByteArray.size_append, List.length_cons, show (⟨#[47]⟩ : ByteArray).size = 1 from rfl]
        omega
    have := hc p (fun x hx => (nameOk_facts (h2 x hx)).1)
    unfold pathT
    split
    · show 1 ≤ 1000; omega
    · omega
  · show 0 ≤ 1000; omega

/-! what is drawn: something, with what is known of it -/
theorem bits255 (x : Int) : 0 ≤ Go.bits .and .i64 x 255 ∧ Go.bits .and .i64 x 255 ≤ 255 := by
  have h2 : (BitVec.ofInt 64 x).toNat &&& 255 ≤ 255 := Nat.and_le_right
  have h : Go.bits .and .i64 x 255 = IntKind.i64.wrap (((BitVec.ofInt 64 x &&& BitVec.ofInt 64 255).toNat : Nat) : Int) := rfl
  have e : (BitVec.ofInt 64 255).toNat = 255 := by decide
  rw [h, BitVec.toNat_and, e, IntKind.wrap_i64]
  omega
def Dr {α : Type} (f : List Int → Int → Int → Option (α × Int × Int)) (P : α → Prop) : Prop :=
  ∀ (b : List Int) (i h : Int), b.length ≤ 1048576 → 0 ≤ i → i ≤ b.length → ∃ x i' h', f b i h = some (x, i', h') ∧ P x ∧ 0 ≤ i' ∧ i' ≤ b.length
def DrE {α : Type} (f : Nat → List Int → Int → Int → Option (α × Int × Int)) (P : α → Prop) : Prop :=
  ∀ (b : List Int) (i h : Int), b.length ≤ 1048576 → 0 ≤ i → i ≤ b.length → ∃ x i' h', Ev (fun k => f k b i h) (x, i', h') ∧ P x ∧ 0 ≤ i' ∧ i' ≤ b.length
theorem l1New_ev (l : List Int) (hl : l.length ≤ 1048576) : ∃ h, Ev (fun k => spec_l1New.f k l) (l, (0 : Int), h) := by
  have key : ∀ n i (x : Int), l.length - i = n → ∃ h, Ev (fun k => spec_l1New.l0 k l x (i : Int)) (l, (0 : Int), h) := by
    intro n
    induction n with
    | zero =>
      intro i x hn
      refine ⟨x, ?_⟩
      apply ev_succ; simp only [spec_l1New.l0, if_neg (show ¬ (i : Int) < (l.length : Int) by omega)]; exact Ev.now _
    | succ n ih =>
      intro i x hn
      by_cases h4 : (i : Int) < 4000
      · obtain ⟨h, hh⟩ := ih (i + 1) (Go.bits .and .i64 (wrap64 ((wrap64 ((wrap64 (x * 137)) + (wrap64 (rd l i)))) + 11)) 1073741823) (by omega)
        refine ⟨h, ?_⟩
        apply ev_succ
        simp only [spec_l1New.l0, if_pos (show (i : Int) < (l.length : Int) by omega), if_pos h4, if_pos (show (0 : Int) ≤ (i : Int) by omega), wrap_id (x := (i : Int) + 1) (by omega) (by omega)]
        exact hh
      · refine ⟨x, ?_⟩
        apply ev_succ; simp only [spec_l1New.l0, if_pos (show (i : Int) < (l.length : Int) by omega), if_neg h4]; exact Ev.now _
  exact key _ 0 _ rfl
theorem l1Byte_dr : Dr spec_l1Byte.f (fun x => 0 ≤ x ∧ x ≤ 255) := by
  intro b i h hb h0 h1
  unfold spec_l1Byte.f
  by_cases q : i < (b.length : Int)
  · rw [if_pos q, if_pos h0]
    exact ⟨_, _, _, rfl, bits255 _, by rw [wrap_id (by omega) (by omega)]; omega, by rw [wrap_id (by omega) (by omega)]; omega⟩
  · rw [if_neg q]
    exact ⟨_, _, _, rfl, bits255 _, h0, h1⟩
theorem tmod_range (x n : Int) (hx : 0 ≤ x) (hn : 0 < n) : 0 ≤ Int.tmod x n ∧ Int.tmod x n < n := by
  rw [Int.tmod_eq_emod_of_nonneg hx]
  exact ⟨Int.emod_nonneg _ (by omega), Int.emod_lt_of_pos _ hn⟩
theorem l1Below_dr (n : Int) : Dr (fun b i h => spec_l1Below.f b i h n) (fun x => 0 ≤ x ∧ (0 < n → x < n)) := by
  intro b i h hb h0 h1
  show ∃ x i' h', spec_l1Below.f b i h n = some (x, i', h') ∧ _
  unfold spec_l1Below.f
  by_cases q : n ≤ 0
  · rw [if_pos q]
    exact ⟨_, _, _, rfl, ⟨by omega, by omega⟩, h0, h1⟩
  · rw [if_neg q]
    obtain ⟨x, i1, e1, f1, p1, a1, b1⟩ := l1Byte_dr b i h hb h0 h1
    by_cases q1 : n ≤ 256
    · rw [if_pos q1, f1]
      simp only [Option.bind_some, if_neg (show ¬ n = 0 by omega)]
      have := tmod_range x n p1.1 (by omega)
      exact ⟨_, _, _, rfl, ⟨this.1, fun _ => this.2⟩, a1, b1⟩
    · rw [if_neg q1, f1]
      obtain ⟨y, i2, e2, f2, p2, a2, b2⟩ := l1Byte_dr b i1 e1 hb a1 b1
      obtain ⟨z, i3, e3, f3, p3, a3, b3⟩ := l1Byte_dr b i2 e2 hb a2 b2
      simp only [Option.bind_some, f2, f3, if_neg (show ¬ n = 0 by omega)]
      rw [wrap_id (x := x * 65536) (by omega) (by omega), wrap_id (x := y * 256) (by omega) (by omega), wrap_id (x := x * 65536 + y * 256) (by omega) (by omega), wrap_id (x := x * 65536 + y * 256 + z) (by omega) (by omega)]
      have := tmod_range (x * 65536 + y * 256 + z) n (by omega) (by omega)
      exact ⟨_, _, _, rfl, ⟨this.1, fun _ => this.2⟩, a3, b3⟩

theorem l1Str_dr (l : List ByteArray) (hl : 0 < l.length) : Dr (fun b i h => spec_l1Str.f b i h l) (fun x => x ∈ l) := by
  intro b i h hb h0 h1
  obtain ⟨x, i1, e1, f1, p1, a1, b1⟩ := l1Below_dr (l.length : Int) b i h hb h0 h1
  have f1' : spec_l1Below.f b i h (l.length : Int) = some (x, i1, e1) := f1
  have hx := p1.2 (by omega)
  show ∃ x i' h', spec_l1Str.f b i h l = some (x, i', h') ∧ _
  unfold spec_l1Str.f
  rw [f1']
  simp only [Option.bind_some, if_pos p1.1, if_pos hx]
  refine ⟨_, _, _, rfl, ?_, a1, b1⟩
  have hn : x.toNat < l.length := by omega
  rw [rdOf, List.getD_eq_getElem?_getD, List.getElem?_eq_getElem hn]
  exact List.getElem_mem hn
theorem Dr.of_str {P : ByteArray → Prop} {l : List ByteArray} {f : List Int → Int → Int → Option (ByteArray × Int × Int)} (hf : ∀ b i h, f b i h = (spec_l1Str.f b i h l).bind fun t => some (t.1, t.2.1, t.2.2)) (hl : 0 < l.length) (hP : ∀ x ∈ l, P x) : Dr f P := by
  intro b i h hb h0 h1
  obtain ⟨x, i1, e1, f1, p1, a1, b1⟩ := l1Str_dr l hl b i h hb h0 h1
  have f1' : spec_l1Str.f b i h l = some (x, i1, e1) := f1
  rw [hf, f1']
  exact ⟨_, _, _, rfl, hP x p1, a1, b1⟩

theorem l2Name_dr : Dr spec_l2Name.f (fun x => x.size ≤ 9) := Dr.of_str (fun _ _ _ => rfl) (by decide) (by decide)
def SmallP (n : Nat) (p : List ByteArray) : Prop := p.length ≤ n ∧ ∀ x ∈ p, x.size ≤ 9
theorem SmallP.snoc {n : Nat} {p : List ByteArray} {x : ByteArray} (h : SmallP n p) (hx : x.size ≤ 9) : SmallP (n + 1) (p ++ [x]) :=
  ⟨by simp; exact h.1, fun y hy => by rcases List.mem_append.1 hy with hy | hy; exact h.2 y hy; simp at hy; rw [hy]; exact hx⟩
theorem l2Draw_dr : DrE spec_l2Draw.f (SmallP 3) := by
  have key : ∀ (n : Nat) (b : List Int) (p : List ByteArray) (i h : Int), b.length ≤ 1048576 → 0 ≤ i → i ≤ b.length → n ≤ 3 → SmallP (3 - n) p →
      ∃ x i' h', Ev (fun k => spec_l2Draw.l0 k p (n : Int) b i h) (x, i', h') ∧ SmallP 3 x ∧ 0 ≤ i' ∧ i' ≤ b.length := by
    intro n
    induction n with
    | zero =>
      intro b p i h hb h0 h1 hn hp
      refine ⟨p, i, h, ?_, hp, h0, h1⟩
      apply ev_succ; simp only [spec_l2Draw.l0, if_neg (show ¬ ((0 : Nat) : Int) > 0 by omega)]; exact Ev.now _
    | succ n ih =>
      intro b p i h hb h0 h1 hn hp
      obtain ⟨x, i1, e1, f1, p1, a1, b1⟩ := l2Name_dr b i h hb h0 h1
      have hp1 := hp.snoc p1
      rw [show 3 - (n + 1) + 1 = 3 - n by omega] at hp1
      obtain ⟨y, i2, e2, f2, r2⟩ := ih b (p ++ [x]) i1 e1 hb a1 b1 (by omega) hp1
      refine ⟨y, i2, e2, ?_, r2⟩
      have hl := hp.1
      apply ev_succ
      simp only [spec_l2Draw.l0, if_pos (show ((n + 1 : Nat) : Int) > 0 by omega), f1, Option.bind_some, if_pos (show p.length < 8796093022208 by omega), wrap_id (x := ((n + 1 : Nat) : Int) - 1) (by omega) (by omega)]
      rw [show ((n + 1 : Nat) : Int) - 1 = (n : Int) by omega]
      exact f2
  intro b i h hb h0 h1
  obtain ⟨x, i1, e1, f1, p1, a1, b1⟩ := l1Below_dr 4 b i h hb h0 h1
  have f1' : spec_l1Below.f b i h 4 = some (x, i1, e1) := f1
  have hx := p1.2 (by omega)
  obtain ⟨y, i2, e2, f2, r2⟩ := key x.toNat b [] i1 e1 hb a1 b1 (by omega) ⟨by simp, by simp⟩
  refine ⟨y, i2, e2, ?_, r2⟩
  unfold spec_l2Draw.f
  simp only [f1', Option.bind_some]
  rw [Int.toNat_of_nonneg p1.1] at f2
  exact f2
theorem l2Any_dr : DrE spec_l2Any.f (SmallP 5) := by
  have key : ∀ (n : Nat) (b : List Int) (p : List ByteArray) (i h : Int), b.length ≤ 1048576 → 0 ≤ i → i ≤ b.length → p.length + n = 5 → SmallP 5 p →
      ∃ x i' h', Ev (fun k => spec_l2Any.l0 k p b i h) (x, i', h') ∧ SmallP 5 x ∧ 0 ≤ i' ∧ i' ≤ b.length := by
    intro n
    induction n with
    | zero =>
      intro b p i h hb h0 h1 hn hp
      obtain ⟨x, i1, e1, f1, p1, a1, b1⟩ := l1Below_dr 2 b i h hb h0 h1
      have f1' : spec_l1Below.f b i h 2 = some (x, i1, e1) := f1
      have hx := p1.2 (by omega)
      have hx0 := p1.1
      refine ⟨p, i1, e1, ?_, hp, a1, b1⟩
      apply ev_succ
      simp only [spec_l2Any.l0, f1', Option.bind_some, wrap_id (x := 4 + x) (by omega) (by omega), if_neg (show ¬ (p.length : Int) < 4 + x by omega)]
      exact Ev.now _
    | succ n ih =>
      intro b p i h hb h0 h1 hn hp
      obtain ⟨x, i1, e1, f1, p1, a1, b1⟩ := l1Below_dr 2 b i h hb h0 h1
      have f1' : spec_l1Below.f b i h 2 = some (x, i1, e1) := f1
      have hx := p1.2 (by omega)
      have hx0 := p1.1
      by_cases q : (p.length : Int) < 4 + x
      · obtain ⟨y, i2, e2, f2, r2⟩ := ih b (p ++ [(⟨#[113]⟩ : ByteArray)]) i1 e1 hb a1 b1 (by simp; omega) ⟨by simp; omega, fun y hy => by rcases List.mem_append.1 hy with hy | hy; exact hp.2 y hy; simp at hy; rw [hy]; decide⟩
        refine ⟨y, i2, e2, ?_, r2⟩
        apply ev_succ
        simp only [spec_l2Any.l0, f1', Option.bind_some, wrap_id (x := 4 + x) (by omega) (by omega), if_pos q, if_pos (show p.length < 8796093022208 by omega)]
        exact f2
      · refine ⟨p, i1, e1, ?_, hp, a1, b1⟩
        apply ev_succ
        simp only [spec_l2Any.l0, f1', Option.bind_some, wrap_id (x := 4 + x) (by omega) (by omega), if_neg q]
        exact Ev.now _
  intro b i h hb h0 h1
  obtain ⟨p, i1, e1, f1, p1, a1, b1⟩ := l2Draw_dr b i h hb h0 h1
  obtain ⟨x, i2, e2, f2, p2, a2, b2⟩ := l1Below_dr 8 b i1 e1 hb a1 b1
  have f2' : spec_l1Below.f b i1 e1 8 = some (x, i2, e2) := f2
  have hl := p1.1
  by_cases q : x = 0
  · obtain ⟨y, i3, e3, f3, p3, a3, b3⟩ := l1Str_dr [(⟨#[]⟩ : ByteArray), (⟨#[46]⟩ : ByteArray), (⟨#[46, 46]⟩ : ByteArray), (⟨#[97, 47, 98]⟩ : ByteArray), (⟨#[110, 105, 110, 101, 98, 121, 116, 101, 115]⟩ : ByteArray), (⟨#[31]⟩ : ByteArray), (⟨#[101, 105, 103, 104, 116, 98, 121, 56]⟩ : ByteArray)] (by decide) b i2 e2 hb a2 b2
    have f3' : spec_l1Str.f b i2 e2 _ = some (y, i3, e3) := f3
    have hy : y.size ≤ 9 := (by decide : ∀ x ∈ _, x.size ≤ 9) y p3
    refine ⟨p ++ [y], i3, e3, ?_, ?_, a3, b3⟩
    · unfold spec_l2Any.f
      refine Ev.bind f1 ?_
      simp only [f2', Option.bind_some, if_pos q, f3', if_pos (show p.length < 8796093022208 by omega)]
      exact Ev.now _
    · have := p1.snoc hy
      exact ⟨by have := this.1; omega, this.2⟩
  · by_cases q1 : x = 1
    · obtain ⟨y, i3, e3, f3, r3⟩ := key (5 - p.length) b p i2 e2 hb a2 b2 (by omega) ⟨by omega, p1.2⟩
      refine ⟨y, i3, e3, ?_, r3⟩
      unfold spec_l2Any.f
      refine Ev.bind f1 ?_
      simp only [f2', Option.bind_some, if_neg q, if_pos q1]
      exact f3
    · refine ⟨p, i2, e2, ?_, ⟨by omega, p1.2⟩, a2, b2⟩
      unfold spec_l2Any.f
      refine Ev.bind f1 ?_
      simp only [f2', Option.bind_some, if_neg q, if_neg q1]
      exact Ev.now _

theorem sameTexts_ev (a b : List ByteArray) (ha : a.length ≤ 9223372036854775806) : Ev (fun k => laws_sameTexts.f k a b) (eqb a b) := by
  unfold laws_sameTexts.f
  refine ev_ite (fun q => ?_) (fun q => ?_)
  · have q' : a.length = b.length := by omega
    refine eq_loop a b (· = ·) q' ha (fun i k => laws_sameTexts.l0 k a b (i : Int)) _ ((eqb_iff a b).trans (list_eq_iff a b q')) ?_ ?_
    · intro i hi
      apply ev_succ; simp only [laws_sameTexts.l0, if_neg (show ¬ (i : Int) < a.length by omega)]; exact Ev.now _
    · intro i x y v hi hx hy hw1 ih
      have hxx : rdOf ByteArray.empty a (i : Int) = x := hx _
      have hyy : rdOf ByteArray.empty b (i : Int) = y := hy _
      refine ⟨fun hR => ?_, fun hR => ?_⟩
      · apply ev_succ
        simp only [laws_sameTexts.l0, if_pos (show (i : Int) < a.length by omega), if_pos (show (0 : Int) ≤ i by omega), if_pos (show (i : Int) < b.length by omega), hxx, hyy, hw1, toList_iff, if_pos hR]; exact ih
      · apply ev_succ
        simp only [laws_sameTexts.l0, if_pos (show (i : Int) < a.length by omega), if_pos (show (0 : Int) ≤ i by omega), if_pos (show (i : Int) < b.length by omega), hxx, hyy, hw1, toList_iff, if_neg hR]; exact Ev.now _
  · rw [eqb_ne (fun h => q (by rw [h]))]; exact Ev.now _

theorem DrawParsePath_dr (l : List Int) (hl : l.length ≤ 1048576) : ∃ s, Ev (fun k => spec_DrawParsePath.f k l) s ∧ s.size ≤ 2000 := by
  obtain ⟨h, hn⟩ := l1New_ev l hl
  obtain ⟨p, i1, e1, f1, p1, a1, b1⟩ := l2Draw_dr l 0 h hl (by omega) (by omega)
  have hp1 := p1.1
  have ht := spec_PathText_ev p (by omega) (fun x hx => by have := p1.2 x hx; omega)
  have hts := pathText_size (p := p)
  obtain ⟨n, i2, e2, f2, p2, a2, b2⟩ := l1Below_dr 4 l i1 e1 hl a1 b1
  have f2' : spec_l1Below.f l i1 e1 4 = some (n, i2, e2) := f2
  obtain ⟨x, i3, e3, f3, p3, a3, b3⟩ := l1Str_dr ([(⟨#[]⟩ : ByteArray), (⟨#[97]⟩ : ByteArray), (⟨#[47, 47]⟩ : ByteArray), (⟨#[47, 46, 47, 97]⟩ : ByteArray), (⟨#[47, 97, 47, 46, 46]⟩ : ByteArray), (⟨#[47, 46, 46]⟩ : ByteArray), (⟨#[47, 97, 47, 46, 46, 47, 46, 46]⟩ : ByteArray), (⟨#[47, 97, 47]⟩ : ByteArray), (⟨#[47, 97, 47, 47, 98]⟩ : ByteArray), (⟨#[47, 37, 50, 101, 37, 50, 101]⟩ : ByteArray), (⟨#[47, 37, 50, 70]⟩ : ByteArray), (⟨#[47, 97, 37, 50]⟩ : ByteArray), (⟨#[47, 49, 47, 50, 47, 51, 47, 52, 47, 53]⟩ : ByteArray), (⟨#[47, 97, 47, 98, 47, 46, 46, 47, 99, 47, 46, 47]⟩ : ByteArray), (⟨#[47, 37, 48, 48]⟩ : ByteArray), (⟨#[47, 110, 105, 110, 101, 98, 121, 116, 101, 115]⟩ : ByteArray)] : List ByteArray) (by decide) l i2 e2 hl a2 b2
  have hx : x.size ≤ 20 := (by decide : ∀ x ∈ _, x.size ≤ 20) x p3
  have f3' : spec_l1Str.f l i2 e2 _ = some (x, i3, e3) := f3
  obtain ⟨y, i4, e4, f4, p4, a4, b4⟩ := l1Str_dr ([(⟨#[47]⟩ : ByteArray), (⟨#[47, 46]⟩ : ByteArray), (⟨#[47, 46, 46]⟩ : ByteArray), (⟨#[47, 47]⟩ : ByteArray), (⟨#[47, 37, 52, 49]⟩ : ByteArray), (⟨#[37]⟩ : ByteArray)] : List ByteArray) (by decide) l i2 e2 hl a2 b2
  have hy : y.size ≤ 20 := (by decide : ∀ x ∈ _, x.size ≤ 20) y p4
  have f4' : spec_l1Str.f l i2 e2 _ = some (y, i4, e4) := f4
  have hr : ∃ s, Ev (fun k => (spec_l1Below.f l i1 e1 4).bind fun bt319 => (if bt319.1 = 0 then ((spec_l1Str.f l bt319.2.1 bt319.2.2 ([(⟨#[]⟩ : ByteArray), (⟨#[97]⟩ : ByteArray), (⟨#[47, 47]⟩ : ByteArray), (⟨#[47, 46, 47, 97]⟩ : ByteArray), (⟨#[47, 97, 47, 46, 46]⟩ : ByteArray), (⟨#[47, 46, 46]⟩ : ByteArray), (⟨#[47, 97, 47, 46, 46, 47, 46, 46]⟩ : ByteArray), (⟨#[47, 97, 47]⟩ : ByteArray), (⟨#[47, 97, 47, 47, 98]⟩ : ByteArray), (⟨#[47, 37, 50, 101, 37, 50, 101]⟩ : ByteArray), (⟨#[47, 37, 50, 70]⟩ : ByteArray), (⟨#[47, 97, 37, 50]⟩ : ByteArray), (⟨#[47, 49, 47, 50, 47, 51, 47, 52, 47, 53]⟩ : ByteArray), (⟨#[47, 97, 47, 98, 47, 46, 46, 47, 99, 47, 46, 47]⟩ : ByteArray), (⟨#[47, 37, 48, 48]⟩ : ByteArray), (⟨#[47, 110, 105, 110, 101, 98, 121, 116, 101, 115]⟩ : ByteArray)] : List ByteArray)).bind fun bt325 => (some bt325.1)) else (if bt319.1 = 1 then ((spec_l1Str.f l bt319.2.1 bt319.2.2 ([(⟨#[47]⟩ : ByteArray), (⟨#[47, 46]⟩ : ByteArray), (⟨#[47, 46, 46]⟩ : ByteArray), (⟨#[47, 47]⟩ : ByteArray), (⟨#[47, 37, 52, 49]⟩ : ByteArray), (⟨#[37]⟩ : ByteArray)] : List ByteArray)).bind fun bt331 => (if (pathText p).size + bt331.1.size ≤ 9223372036854775807 then (some ((pathText p) ++ bt331.1)) else (none))) else (some (pathText p)))) ) s ∧ s.size ≤ 2000 := by
    simp only [f2', Option.bind_some, f3', f4', if_pos (show (pathText p).size + y.size ≤ 9223372036854775807 by omega)]
    by_cases q0 : n = 0
    · exact ⟨x, by simp only [if_pos q0]; exact Ev.now _, by omega⟩
    · by_cases q1 : n = 1
      · exact ⟨pathText p ++ y, by simp only [if_neg q0, if_pos q1]; exact Ev.now _, by rw [ByteArray.size_append]; omega⟩
      · exact ⟨pathText p, by simp only [if_neg q0, if_neg q1]; exact Ev.now _, by omega⟩
  obtain ⟨s, hs1, hs2⟩ := hr
  refine ⟨s, ?_, hs2⟩
  unfold spec_DrawParsePath.f
  exact Ev.bind hn (Ev.bind f1 (Ev.bind ht hs1))
theorem DrawPathText_dr (l : List Int) (hl : l.length ≤ 1048576) : ∃ p, Ev (fun k => spec_DrawPathText.f k l) p ∧ SmallP 5 p := by
  obtain ⟨h, hn⟩ := l1New_ev l hl
  obtain ⟨p, i1, e1, f1, p1, a1, b1⟩ := l2Any_dr l 0 h hl (by omega) (by omega)
  refine ⟨p, ?_, p1⟩
  unfold spec_DrawPathText.f
  exact Ev.bind hn (Ev.bind f1 (Ev.now _))
theorem FnPaths_j1 (p : List ByteArray) (hp : SmallP 5 p) : Ev (fun k => laws_FnPaths.j1 k p (pathText p)) true := by
  have hp1 := hp.1
  have hts := pathText_size (p := p)
  apply ev_succ
  simp only [laws_FnPaths.j1]
  refine Ev.bind (impl_PathOk_ev p (by omega) (fun x hx => by have := hp.2 x hx; omega)) (ev_iteB (fun q => ?_) (fun q => ?_))
  · have e : pathText p = pathT p := by unfold pathText; rw [if_pos q]
    have hi := impl_ParsePath_ev (pathText p) (by omega)
    rw [e, pathV_pathT q] at hi
    rw [e]
    refine Ev.bind hi (ev_ite (fun _ => ?_) (fun q => absurd rfl q))
    have hst := sameTexts_ev p p (by omega)
    rw [eqb_self] at hst
    exact Ev.bind hst (Ev.now _)
  · have e : pathText p = (⟨#[]⟩ : ByteArray) := by unfold pathText; rw [if_neg (by rw [q]; simp)]
    rw [e]
    have : ((⟨#[]⟩ : ByteArray).toList == ([] : List UInt8)) = true := by
      rw [beq_iff_eq]; exact (lit_iff _ []).2 rfl
    rw [this]; exact Ev.now _
theorem FnPaths : laws_FnPaths.Pure := by
  intro l _ _
  apply Ev.rounds
  unfold laws_FnPaths.f laws_big.f
  simp only [Option.bind_some]
  refine ev_iteB (fun _ => Ev.now _) (fun q => ?_)
  have hl : l.length ≤ 1048576 := by
    have := of_decide_eq_false q
    omega
  obtain ⟨p, ep, hp⟩ := DrawPathText_dr l hl
  obtain ⟨t, et, ht⟩ := DrawParsePath_dr l hl
  have hp1 := hp.1
  have hps : ∀ x ∈ p, x.size ≤ 1048576 := fun x hx => by have := hp.2 x hx; omega
  have hps' : ∀ x ∈ p, x.size ≤ 140737488351232 := fun x hx => by have := hp.2 x hx; omega
  have hv := pathV_len t (by omega)
  have hok := @pathV_ok t
  refine Ev.bind ep (Ev.bind (impl_PathText_ev p (by omega) hps) (Ev.bind et (Ev.bind (impl_ParsePath_ev t (by omega)) (Ev.bind (spec_ParsePath_ev t (by omega)) ?_))))
  generalize pathV t = V at hv hok
  obtain ⟨V1, V2⟩ := V
  replace hv : V1.length ≤ 1048577 := hv
  replace hok : V2 = true → pathOk V1 = true := hok
  simp only [bne_self_eq_false, Bool.false_eq_true, if_false]
  refine Ev.bind (impl_PathOk_ev p (by omega) hps') (Ev.bind (spec_PathOk_ev p (by omega) hps') ?_)
  simp only [bne_self_eq_false, Bool.false_eq_true, if_false]
  refine Ev.bind (spec_PathText_ev p (by omega) hps) ?_
  simp only [bne_self_eq_false]
  have hj := FnPaths_j1 p hp
  apply ev_succ
  simp only [laws_FnPaths.j0, Bool.false_eq_true, if_false]
  refine ev_iteB (fun q => ?_) (fun q => ?_)
  · have hk := hok q
    obtain ⟨k1, k2⟩ := pathOk_facts hk
    have hq : ∀ x ∈ V1, x.size ≤ 1048576 := fun x hx => by have := (nameOk_facts (k2 x hx)).1; omega
    have hq' : ∀ x ∈ V1, x.size ≤ 140737488351232 := fun x hx => by have := (nameOk_facts (k2 x hx)).1; omega
    have hts := pathText_size (p := V1)
    have hi := impl_ParsePath_ev (pathText V1) (by omega)
    have e : pathText V1 = pathT V1 := by unfold pathText; rw [if_pos hk]
    have hit := impl_PathText_ev V1 (by omega) hq
    rw [e, pathV_pathT hk] at hi
    rw [e] at hit
    have hst := sameTexts_ev V1 V1 (by omega)
    rw [eqb_self] at hst
    have hpo := impl_PathOk_ev V1 (by omega) hq'
    rw [hk] at hpo
    refine Ev.bind hit (Ev.bind hi (ev_ite (fun _ => ?_) (fun q => absurd rfl q)))
    refine Ev.bind hst (ev_ite (fun _ => ?_) (fun q => absurd rfl q))
    exact Ev.bind hpo (ev_ite (fun _ => hj) (fun q => absurd rfl q))
  · exact hj

end Go.Proofs.YtgfpiijpgpkoiabDoor.Pure
