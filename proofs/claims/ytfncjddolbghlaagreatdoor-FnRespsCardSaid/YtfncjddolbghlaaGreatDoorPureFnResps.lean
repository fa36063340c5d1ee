/- Of drawn answers and bytes, bent or not, writing and reading agree, for all codes; no condition. -/
import Derived.Test.YtfncjddolbghlaaGreatDoorGFnRespsx14
import Derived.Test.YtfncjddolbghlaaGreatDoorBase
import Derived.Lib.SplitLaws
import Derived.Lib.IndexBytes
import Derived.Lib.Index
import Derived.Lib.IndexMore
import Derived.Lib.ItoaNum
import Derived.Lib.AtoiTie
import Derived.Lib.SlTrimSet
import Derived.Lib.Bytealg
namespace Go.Proofs.YtfncjddolbghlaaGreatDoor.Pure
open Go.RowKit Go.Proofs.YtfncjddolbghlaaGreatDoor.GFnResps Go.Proofs.YtfncjddolbghlaaGreatDoor.Base Go.Proofs.YtfncjddolbghlaaGreatDoorW.PrintWords Go.Proofs.YtfncjddolbghlaaGreatDoorW.PrintLast
set_option linter.unusedVariables false
set_option linter.unusedSimpArgs false


theorem u8_eq {a : Int} (h0 : 0 ≤ a) (h1 : a < 256) (n : Nat) (hn : n < 256) : (UInt8.ofNat n == UInt8.ofNat a.toNat) = decide (a = n) := by
 rw [Bool.eq_iff_iff, beq_iff_eq, decide_eq_true_iff]
 constructor
 ·intro h
  have := congrArg UInt8.toNat h
  simp only [UInt8.toNat_ofNat'] at this
  omega
 ·rintro rfl; simp

theorem data_bytesB (s : ByteArray) : s.data.toList = (bytesOf s).map fun n => UInt8.ofNat n.toNat := by
 have h := congrArg (fun b : ByteArray => b.data.toList) (strOfNums_bytesOf s)
 simp only [strOfNums_data] at h
 exact h.symm

/-- a text's lines; cur: the line that is open -/
def splC : List Int → List Int → List (List Int)
 | cur, [] => [cur]
 | cur, [c] => [cur ++ [c]]
 | cur, c :: d :: r => if c = 13 ∧ d = 10 then cur :: splC [] r else splC (cur ++ [c]) (d :: r)
def linesC (l : List Int) : List ByteArray := (splC [] l).map strOfNums
/-- the place of the first line's end; none: there is none -/
def fnd2 : List Int → Option Nat
 | [] => none
 | [_] => none
 | c :: d :: r => if c = 13 ∧ d = 10 then some 0 else (fnd2 (d :: r)).map (· + 1)
theorem splC_cut : ∀ (l cur : List Int), splC cur l = match fnd2 l with
  | none => [cur ++ l]
  | some i => (cur ++ l.take i) :: splC [] (l.drop (i + 2))
 | [], cur => by simp [splC, fnd2]
 | [c], cur => by simp [splC, fnd2]
 | c :: d :: r, cur => by
  rw [splC, fnd2]
  by_cases q : c = 13 ∧ d = 10
  ·rw [if_pos q, if_pos q]; simp
  ·rw [if_neg q, if_neg q, splC_cut (d :: r) (cur ++ [c])]
   cases h : fnd2 (d :: r) with
   | none => simp
   | some i => simp
theorem fnd2_le : ∀ (l : List Int) (i : Nat), fnd2 l = some i → i + 2 ≤ l.length
 | [], i, h => by simp [fnd2] at h
 | [c], i, h => by simp [fnd2] at h
 | c :: d :: r, i, h => by
  rw [fnd2] at h
  split at h
  ·injection h with h; subst h; simp
  ·cases h2 : fnd2 (d :: r) with
   | none => rw [h2] at h; cases h
   | some j =>
    rw [h2] at h
    simp only [Option.map_some, Option.some.injEq] at h
    have h3 := fnd2_le (d :: r) j h2
    simp only [List.length_cons] at h3 ⊢
    omega
theorem pre2 (t : List Int) (hr : ∀ x ∈ t, 0 ≤ x ∧ x < 256) : ([13, 10] : List UInt8).isPrefixOf (t.map fun n => UInt8.ofNat n.toNat) = decide (t.take 2 = [13, 10]) := by
 match t, hr with
 | [], _ => rfl
 | [a], _ => simp [List.isPrefixOf]
 | a :: b :: r, hr =>
  have ha := hr a (by simp); have hb := hr b (by simp)
  have e1 := u8_eq ha.1 ha.2 13 (by omega); have e2 := u8_eq hb.1 hb.2 10 (by omega)
  simp only [List.map_cons, List.isPrefixOf, Bool.and_true]
  have c13 : (13 : UInt8) = UInt8.ofNat 13 := rfl
  have c10 : (10 : UInt8) = UInt8.ofNat 10 := rfl
  rw [c13, c10, e1, e2]
  rw [Bool.eq_iff_iff]
  simp
theorem index_fnd2 : ∀ (t : List Int), (∀ x ∈ t, 0 ≤ x ∧ x < 256) → Lib.index (t.map fun n => UInt8.ofNat n.toNat) [13, 10] = match fnd2 t with
  | none => (-1 : Int)
  | some i => (i : Int)
 | [], _ => rfl
 | [c], hr => by
  have hp := pre2 [c] hr
  simp only [List.map_cons, List.map_nil] at hp ⊢
  rw [Lib.index, hp]
  simp [fnd2, Lib.index]
 | c :: d :: r, hr => by
  have hp := pre2 (c :: d :: r) hr
  have ih := index_fnd2 (d :: r) (fun x hx => hr x (by simp [hx]))
  rw [List.map_cons] at hp ⊢
  rw [Lib.index, hp, fnd2, ih]
  by_cases q : c = 13 ∧ d = 10
  ·rw [if_pos q, q.1, q.2]; rfl
  ·rw [if_neg q, decide_eq_false (by simpa using q)]
   cases h : fnd2 (d :: r) with
   | none => rfl
   | some i =>
    simp only [Option.map_some, Bool.false_eq_true, if_false]
    rw [if_neg (by simp only [beq_iff_eq]; omega)]
    simp
theorem indexC (s : ByteArray) : Lib.indexB s ⟨#[13, 10]⟩ = match fnd2 (bytesOf s) with
  | none => (-1 : Int)
  | some i => (i : Int) := by
 show Lib.index s.data.toList [13, 10] = _
 rw [data_bytesB, index_fnd2 _ (bytesOf_range s)]
theorem splitB_linesC : ∀ (n : Nat) (s : ByteArray), s.size ≤ n → Lib.splitB ⟨#[13, 10]⟩ 0 (Lib.countB s ⟨#[13, 10]⟩) s = linesC (bytesOf s) := by
 intro n
 induction n with
 | zero =>
  intro s h
  have h0 : bytesOf s = [] := List.eq_nil_of_length_eq_zero (by rw [bytesOf_length]; omega)
  have hi : Lib.indexB s ⟨#[13, 10]⟩ = -1 := by rw [indexC, h0]; rfl
  rw [Lib.splitB_miss _ _ _ _ hi]
  unfold linesC
  rw [h0]
  have : s = strOfNums [] := by rw [← h0, strOfNums_bytesOf]
  rw [this]; rfl
 | succ n ih =>
  intro s h
  have hi := indexC s
  unfold linesC
  rw [splC_cut]
  cases q : fnd2 (bytesOf s) with
  | none =>
   rw [q] at hi
   rw [Lib.splitB_miss _ _ _ _ hi]
   simp [strOfNums_bytesOf]
  | some i =>
   rw [q] at hi
   simp only [] at hi ⊢
   have hle := fnd2_le _ _ q
   rw [bytesOf_length] at hle
   have h1 : 1 ≤ (⟨#[13, 10]⟩ : ByteArray).size := by decide
   rw [Lib.countB_hit s ⟨#[13, 10]⟩ _ h1 hi, Nat.add_comm, Lib.splitB_hit _ _ _ _ _ hi]
   have e1 : bytesOf (s.extract (i + (⟨#[13, 10]⟩ : ByteArray).size) s.size) = (bytesOf s).drop (i + 2) := by
    rw [bytesOf_extract, List.take_of_length_le (by rw [bytesOf_length]; exact Nat.le_refl _)]
    rfl
   have e2 : s.extract 0 (i + 0) = strOfNums ((bytesOf s).take i) := by
    apply bytesOf_inj
    rw [bytesOf_extract, Nat.add_zero, List.drop_zero, bytesOf_strOfNums]
    intro x hx
    exact bytesOf_range s x (List.mem_of_mem_take hx)
   have hsz : (s.extract (i + (⟨#[13, 10]⟩ : ByteArray).size) s.size).size ≤ n := by
    rw [size_len, e1, List.length_drop, bytesOf_length]; omega
   rw [ih _ hsz, e1, e2]
   simp [linesC]
theorem take_snocC {l : List Int} {i st : Nat} {c : Int} {r : List Int} (h : l.drop i = c :: r) (hs : st ≤ i) : (l.take (i + 1)).drop st = (l.take i).drop st ++ [c] := by
 obtain ⟨_, h2, _, h4⟩ := l_drop h
 rw [List.take_add_one, h4, Option.toList_some, List.drop_append_of_le_length (by rw [List.length_take]; omega)]

theorem pre4 (t : List Int) (hr : ∀ x ∈ t, 0 ≤ x ∧ x < 256) : ([13, 10, 13, 10] : List UInt8).isPrefixOf (t.map fun n => UInt8.ofNat n.toNat) = decide (t.take 4 = [13, 10, 13, 10]) := by
 match t, hr with
 | [], _ => rfl
 | [a], _ => simp [List.isPrefixOf]
 | [a, b], _ => simp [List.isPrefixOf]
 | [a, b, c], _ => simp [List.isPrefixOf]
 | a :: b :: c :: d :: r, hr =>
  have ha := hr a (by simp); have hb := hr b (by simp); have hc := hr c (by simp); have hd := hr d (by simp)
  have e1 := u8_eq ha.1 ha.2 13 (by omega); have e2 := u8_eq hb.1 hb.2 10 (by omega); have e3 := u8_eq hc.1 hc.2 13 (by omega); have e4 := u8_eq hd.1 hd.2 10 (by omega)
  simp only [List.map_cons, List.isPrefixOf, Bool.and_true]
  have c13 : (13 : UInt8) = UInt8.ofNat 13 := rfl
  have c10 : (10 : UInt8) = UInt8.ofNat 10 := rfl
  rw [c13, c10, e1, e2, e3, e4]
  rw [Bool.eq_iff_iff]
  simp
/-- the place behind the first empty line, from place i on -/
def fnd4 : Nat → List Int → Int
 | _, [] => -1
 | i, c :: r => if (c :: r).take 4 = [13, 10, 13, 10] then (i : Int) + 4 else fnd4 (i + 1) r
theorem fnd4_short : ∀ (t : List Int) (i : Nat), t.length < 4 → fnd4 i t = -1
 | [], _, _ => rfl
 | c :: r, i, h => by
  rw [fnd4, if_neg, fnd4_short r (i + 1) (by simp at h; omega)]
  intro e
  have := congrArg List.length e
  simp at this h
  omega
theorem index_fnd4 : ∀ (t : List Int) (i : Nat), (∀ x ∈ t, 0 ≤ x ∧ x < 256) → (if Lib.index (t.map fun n => UInt8.ofNat n.toNat) [13, 10, 13, 10] < 0 then (-1 : Int) else i + Lib.index (t.map fun n => UInt8.ofNat n.toNat) [13, 10, 13, 10] + 4) = fnd4 i t
 | [], i, _ => rfl
 | c :: r, i, hr => by
  have hp := pre4 (c :: r) hr
  have ih := index_fnd4 r (i + 1) (fun x hx => hr x (by simp [hx]))
  have hg := Lib.index_ge (r.map fun n => UInt8.ofNat n.toNat) [13, 10, 13, 10]
  rw [List.map_cons] at hp ⊢
  rw [Lib.index, hp, fnd4]
  by_cases q : (c :: r).take 4 = [13, 10, 13, 10]
  ·rw [if_pos q, decide_eq_true q]; simp
  ·rw [if_neg q, decide_eq_false q, ← ih]
   simp only [Bool.false_eq_true, if_false, beq_iff_eq]
   by_cases q1 : Lib.index (r.map fun n => UInt8.ofNat n.toNat) [13, 10, 13, 10] = -1
   ·rw [if_pos q1, q1]; rfl
   ·rw [if_neg q1, if_neg (by omega), if_neg (by omega)]
    rw [show ((i + 1 : Nat) : Int) = i + 1 from rfl]; omega
/-- lines, one behind the other -/
def joinC : List (List Int) → List Int
 | [] => []
 | [a] => a
 | a :: b :: r => a ++ 13 :: 10 :: joinC (b :: r)
theorem splC_app : ∀ (a cur r : List Int), (∀ x ∈ a, x ≠ 13) → splC cur (a ++ r) = splC (cur ++ a) r
 | [], cur, r, _ => by simp
 | x :: a, cur, r, h => by
  have hx : x ≠ 13 := h x (by simp)
  have ih := splC_app a (cur ++ [x]) r (fun y hy => h y (by simp [hy]))
  have e : cur ++ [x] ++ a = cur ++ x :: a := by simp
  rw [e] at ih
  rw [← ih, List.cons_append]
  cases hr : a ++ r with
  | nil => simp [splC]
  | cons d t => rw [splC, if_neg (fun q => hx q.1)]
theorem splC_end (cur r : List Int) : splC cur (13 :: 10 :: r) = cur :: splC [] r := by rw [splC, if_pos ⟨rfl, rfl⟩]
theorem splC_join : ∀ (ls : List (List Int)), ls ≠ [] → (∀ a ∈ ls, ∀ x ∈ a, x ≠ 13) → splC [] (joinC ls) = ls
 | [], h, _ => absurd rfl h
 | [a], _, h => by
  have h1 := splC_app a [] [] (h a (by simp))
  rw [List.append_nil, List.nil_append] at h1
  rw [joinC, h1, splC]
 | a :: b :: r, _, h => by
  rw [joinC, splC_app a [] _ (h a (by simp)), splC_end, splC_join (b :: r) (by simp) (fun c hc => h c (by simp [hc]))]
  simp
theorem fnd4_skip : ∀ (a : List Int) (i : Nat) (r : List Int), (∀ x ∈ a, x ≠ 13) → fnd4 i (a ++ r) = fnd4 (i + a.length) r
 | [], i, r, _ => by simp
 | x :: a, i, r, h => by
  have hx : x ≠ 13 := h x (by simp)
  rw [List.cons_append, fnd4, if_neg (fun q => by simp at q; exact hx q.1), fnd4_skip a (i + 1) r (fun y hy => h y (by simp [hy])), List.length_cons]
  congr 1; omega
theorem fnd4_end (i : Nat) (r : List Int) (h : r.head? ≠ some 13) : fnd4 i (13 :: 10 :: r) = fnd4 (i + 2) r := by
 rw [fnd4, if_neg (fun q => by
  cases r with
  | nil => simp at q
  | cons y t => simp at q; simp at h; exact h q.1), fnd4, if_neg (by simp)]
theorem joinC_head {b : List Int} {r : List (List Int)} (hb : b ≠ []) (h : ∀ x ∈ b, x ≠ 13) (t : List Int) : (joinC (b :: r) ++ t).head? ≠ some 13 := by
 cases b with
 | nil => exact absurd rfl hb
 | cons y u =>
  have hy := h y (by simp)
  cases r with
  | nil => simp [joinC]; exact hy
  | cons c s => simp [joinC]; exact hy
theorem fnd4_join : ∀ (ls : List (List Int)) (i : Nat) (t : List Int), ls ≠ [] → (∀ a ∈ ls, a ≠ [] ∧ ∀ x ∈ a, x ≠ 13) → fnd4 i (joinC ls ++ 13 :: 10 :: 13 :: 10 :: t) = ((i + (joinC ls).length + 4 : Nat) : Int)
 | [], _, _, h, _ => absurd rfl h
 | [a], i, t, _, h => by
  rw [joinC, fnd4_skip a i _ (h a (by simp)).2, fnd4, if_pos (by simp)]
  rfl
 | a :: b :: r, i, t, _, h => by
  have ih := fnd4_join (b :: r) (i + a.length + 2) t (by simp) (fun c hc => h c (by simp [hc]))
  have hb := h b (by simp)
  rw [joinC, List.append_assoc, List.cons_append, List.cons_append, fnd4_skip a i _ (h a (by simp)).2, fnd4_end _ _ (joinC_head hb.1 hb.2 _), ih]
  simp only [List.length_append, List.length_cons]
  congr 1; omega

/-- the place of the first two signs a, b; none: there is none -/
def fndP (a b : Int) : List Int → Option Nat
 | [] => none
 | [_] => none
 | c :: d :: r => if c = a ∧ d = b then some 0 else (fndP a b (d :: r)).map (· + 1)
theorem fndP_app (a b : Int) : ∀ (x r : List Int), a ∉ x → fndP a b (x ++ a :: b :: r) = some x.length
 | [], r, _ => by simp [fndP]
 | c :: x, r, h => by
  have hc : c ≠ a := fun e => h (by simp [e])
  have ih := fndP_app a b x r (fun e => h (by simp [e]))
  cases hx : x ++ a :: b :: r with
  | nil => simp at hx
  | cons d t =>
   rw [List.cons_append, hx, fndP, if_neg (fun q => hc q.1), ← hx, ih]
   simp
theorem index_fndP (a b : UInt8) : ∀ l : List UInt8, Lib.index l [a, b] = match fndP (a.toNat : Int) (b.toNat : Int) (l.map fun x => (x.toNat : Int)) with
  | none => (-1 : Int)
  | some i => (i : Int)
 | [] => rfl
 | [c] => by
  rw [Lib.index]
  simp [fndP, Lib.index, List.isPrefixOf]
 | c :: d :: r => by
  have ih := index_fndP a b (d :: r)
  rw [Lib.index, ih]
  simp only [List.map_cons, fndP, List.isPrefixOf, Bool.and_true]
  have e : (a == c && b == d) = decide ((c.toNat : Int) = (a.toNat : Int) ∧ (d.toNat : Int) = (b.toNat : Int)) := by
   rw [Bool.eq_iff_iff, Bool.and_eq_true, beq_iff_eq, beq_iff_eq, decide_eq_true_iff]
   constructor
   ·rintro ⟨rfl, rfl⟩; exact ⟨rfl, rfl⟩
   ·rintro ⟨h1, h2⟩; exact ⟨(UInt8.toNat_inj.1 (by omega)).symm, (UInt8.toNat_inj.1 (by omega)).symm⟩
  rw [e]
  by_cases q : (c.toNat : Int) = (a.toNat : Int) ∧ (d.toNat : Int) = (b.toNat : Int)
  ·rw [if_pos q, decide_eq_true q]; rfl
  ·rw [if_neg q, decide_eq_false q]
   cases h : fndP (a.toNat : Int) (b.toNat : Int) ((d.toNat : Int) :: r.map fun x => (x.toNat : Int)) with
   | none => simp
   | some i =>
    simp only [Option.map_some, Bool.false_eq_true, if_false]
    rw [if_neg (by simp only [beq_iff_eq]; omega)]
    simp
/-- a text's two parts about the first two signs -/
def cutP (a b : Int) (s : ByteArray) : ByteArray × ByteArray × Bool := match fndP a b (bytesOf s) with
 | none => (s, ⟨#[]⟩, false)
 | some i => (strOfNums ((bytesOf s).take i), strOfNums ((bytesOf s).drop (i + 2)), true)
theorem cut_pair (a b : UInt8) (s : ByteArray) (h : s.size < 4294967281) : strings_Cut.f s (⟨#[a, b]⟩ : ByteArray) = some (cutP (a.toNat : Int) (b.toNat : Int) s) := by
 unfold strings_Cut.f cutP
 rw [if_pos h]
 have hb : bytesOf s = s.data.toList.map fun b => (b.toNat : Int) := rfl
 have hi := index_fndP a b s.data.toList
 rw [← hb] at hi
 have e0 : (⟨#[a, b]⟩ : ByteArray).data.toList = [a, b] := rfl
 rw [e0]
 unfold Lib.cut
 rw [hi]
 cases q : fndP (a.toNat : Int) (b.toNat : Int) (bytesOf s) with
 | none =>
  simp only []
  rw [if_neg (by decide)]
 | some i =>
  simp only []
  rw [if_pos (by omega)]
  simp only [Int.toNat_natCast, List.length_cons, List.length_nil, Nat.zero_add]
  congr 1
  refine Prod.ext ?_ (Prod.ext ?_ rfl)
  ·apply bytesOf_inj
   rw [bytesOf_mk, bytesOf_strOfNums _ (fun x hx => bytesOf_range s x (List.mem_of_mem_take hx)), hb, List.map_take]
  ·apply bytesOf_inj
   rw [bytesOf_mk, bytesOf_strOfNums _ (fun x hx => bytesOf_range s x (List.mem_of_mem_drop hx)), hb, List.map_drop]
theorem cutP_size (a b : Int) (s : ByteArray) : (cutP a b s).1.size ≤ s.size ∧ (cutP a b s).2.1.size ≤ s.size := by
 unfold cutP
 cases q : fndP a b (bytesOf s) with
 | none => exact ⟨Nat.le_refl _, Nat.zero_le _⟩
 | some i =>
  simp only [strOfNums_size, List.length_take, List.length_drop, bytesOf_length]
  omega
theorem cutP_app (a b : Int) (x y : ByteArray) (s : ByteArray) (h : bytesOf s = bytesOf x ++ a :: b :: bytesOf y) (hx : a ∉ bytesOf x) : cutP a b s = (x, y, true) := by
 unfold cutP
 rw [h, fndP_app a b _ _ hx]
 simp only []
 refine Prod.ext ?_ (Prod.ext ?_ rfl)
 ·simp only [List.take_left']
  rw [strOfNums_bytesOf]
 ·have : (bytesOf x ++ a :: b :: bytesOf y).drop ((bytesOf x).length + 2) = bytesOf y := by
   rw [← List.drop_drop, List.drop_left]; rfl
  simp only [this, strOfNums_bytesOf]

/-- the digits of a number, as bytes -/
def numD (u : Nat) : List Int := (Lib.decDigits u).map fun b => (b.toNat : Int)
theorem numD_step (u : Nat) (h : 9 < u) : numD u = numD (u / 10) ++ [48 + ((u % 10 : Nat) : Int)] := by
 unfold numD
 rw [Lib.decDigits, dif_neg (by omega), List.map_append]
 congr 1
 simp only [List.map_cons, List.map_nil, List.cons.injEq, and_true]
 rw [show (UInt8.ofNat (48 + u % 10)).toNat = 48 + u % 10 from by simp; omega]
 omega
theorem numD_low (u : Nat) (h : u ≤ 9) : numD u = [48 + (u : Int)] := by
 unfold numD
 rw [Lib.decDigits, dif_pos (by omega)]
 simp only [List.map_cons, List.map_nil, List.cons.injEq, and_true]
 rw [show (UInt8.ofNat (48 + u)).toNat = 48 + u from by simp; omega]
 omega
theorem numD_range (u : Nat) : ∀ x ∈ numD u, 0 ≤ x ∧ x < 256 := by
 intro x hx
 obtain ⟨b, _, rfl⟩ := List.mem_map.1 hx
 have := b.toNat_lt
 omega
theorem strNum (u : Nat) : (⟨(Lib.decDigits u).toArray⟩ : ByteArray) = strOfNums (numD u) := by
 apply bytesOf_inj
 rw [bytesOf_strOfNums _ (numD_range u), bytesOf_mk]; rfl
theorem numD_len : ∀ (k u : Nat), u < 10 ^ (k + 1) → (numD u).length ≤ k + 1
 | 0, u, h => by rw [numD_low u (by simpa using Nat.le_of_lt_succ h)]; simp
 | k + 1, u, h => by
  rcases Nat.lt_or_ge 9 u with h9 | h9
  ·rw [numD_step u h9, List.length_append]
   have := numD_len k (u / 10) (by rw [Nat.pow_succ] at h; omega)
   simp; omega
  ·rw [numD_low u h9]; simp
/-- one digit in front -/
theorem digit_byte (u : Nat) (hu : u ≤ 9223372036854775807) : wrap64 (48 + Int.tmod (u : Int) 10) % 256 = 48 + ((u % 10 : Nat) : Int) := by
 have e : Int.tmod (u : Int) 10 = ((u % 10 : Nat) : Int) := by rw [Int.tmod_eq_emod_of_nonneg (by omega)]; omega
 rw [e, wrap_id (by omega) (by omega)]
 omega
theorem tdiv_ten (u : Nat) (hu : u ≤ 9223372036854775807) : wrap64 (Int.tdiv (u : Int) 10) = ((u / 10 : Nat) : Int) := by
 rw [Int.tdiv_eq_ediv_of_nonneg (by omega), wrap_id (by omega) (by omega)]
 omega

/-- digits, read as a number -/
def decL : Int → List Int → Option Int
 | a, [] => some a
 | a, c :: r => if 48 ≤ c ∧ c ≤ 57 then decL (a * 10 + (c - 48)) r else none
theorem decL_from : ∀ (l : List UInt8) (acc : Nat), decL (acc : Int) (l.map fun b => (b.toNat : Int)) = (Lib.decFrom acc l).map fun m => (m : Int)
 | [], _ => rfl
 | c :: r, acc => by
  simp only [List.map_cons, decL, Lib.decFrom, Lib.digitVal]
  by_cases h : 48 ≤ c.toNat ∧ c.toNat ≤ 57
  ·rw [if_pos h, if_pos (by omega), ← decL_from r]
   congr 1; omega
  ·rw [if_neg h, if_neg (by omega)]; rfl
theorem decL_snoc : ∀ (l : List Int) (a c : Int), decL a (l ++ [c]) = (decL a l).bind fun m => if 48 ≤ c ∧ c ≤ 57 then some (m * 10 + (c - 48)) else none
 | [], a, c => by simp [decL]
 | d :: r, a, c => by
  simp only [List.cons_append, decL]
  split
  ·exact decL_snoc r _ c
  ·rfl
theorem decL_le : ∀ (l : List Int) (a m : Int), 0 ≤ a → decL a l = some m → 0 ≤ m ∧ m < (a + 1) * 10 ^ l.length
 | [], a, m, ha, h => by simp only [decL, Option.some.injEq] at h; subst h; simp; omega
 | c :: r, a, m, ha, h => by
  simp only [decL] at h
  split at h
  ·have := decL_le r _ m (by omega) h
   refine ⟨this.1, Int.lt_of_lt_of_le this.2 ?_⟩
   rw [List.length_cons, Int.pow_succ, Int.mul_comm (10 ^ r.length) 10, ← Int.mul_assoc]
   exact Int.mul_le_mul_of_nonneg_right (by omega) (Int.le_of_lt (Int.pow_pos (by decide)))
  ·cases h
theorem numD_ne (u : Nat) : numD u ≠ [] := by
 rcases Nat.lt_or_ge 9 u with h9 | h9
 ·rw [numD_step u h9]; simp
 ·rw [numD_low u h9]; simp
theorem decL_numD (u : Nat) : decL 0 (numD u) = some (u : Int) := by
 induction u using Nat.strongRecOn with
 | _ u ih =>
  rcases Nat.lt_or_ge 9 u with h9 | h9
  ·rw [numD_step u h9, decL_snoc, ih (u / 10) (by omega), Option.bind_some, if_pos (by omega)]
   congr 1; omega
  ·rw [numD_low u h9]
   simp only [decL]
   rw [if_pos (by omega)]
   congr 1; omega
theorem numD_48 (u : Nat) : ∀ r, numD u = 48 :: r → u = 0 := by
 induction u using Nat.strongRecOn with
 | _ u ih =>
  intro r h
  rcases Nat.lt_or_ge 9 u with h9 | h9
  ·rw [numD_step u h9] at h
   cases hd : numD (u / 10) with
   | nil => have := numD_ne (u / 10); exact absurd hd this
   | cons c t =>
    rw [hd, List.cons_append] at h
    obtain ⟨rfl, _⟩ := List.cons.inj h
    have := ih (u / 10) (by omega) t hd
    omega
  ·rw [numD_low u h9] at h
   have := (List.cons.inj h).1
   omega
theorem numD_dig (u : Nat) : ∀ c ∈ numD u, 48 ≤ c ∧ c ≤ 57 := by
 induction u using Nat.strongRecOn with
 | _ u ih =>
  intro c h
  rcases Nat.lt_or_ge 9 u with h9 | h9
  ·rw [numD_step u h9, List.mem_append] at h
   rcases h with h | h
   ·exact ih (u / 10) (by omega) c h
   ·simp at h; omega
  ·rw [numD_low u h9] at h
   simp at h; omega
/-- what digits without a 0 ahead spell has these digits -/
theorem numD_dec : ∀ (n : Nat) (l : List Int) (m : Int), l.length = n + 1 → decL 0 l = some m → (n = 0 ∨ ∀ r, l ≠ 48 :: r) → numD m.toNat = l
 | 0, l, m, hl, h, _ => by
  obtain ⟨c, rfl⟩ := List.length_eq_one_iff.1 hl
  simp only [decL] at h
  split at h
  ·obtain rfl := Option.some.inj h
   rw [numD_low _ (by omega)]
   congr 1; omega
  ·cases h
 | n + 1, l, m, hl, h, h0 => by
  replace h0 : ∀ r, l ≠ 48 :: r := by
   rcases h0 with h0 | h0
   ·omega
   ·exact h0
  obtain ⟨l', c, rfl⟩ : ∃ l' c, l = l' ++ [c] := ⟨l.dropLast, l.getLast (by intro e; subst e; simp at hl), (List.dropLast_concat_getLast _).symm⟩
  have hl' : l'.length = n + 1 := by simp at hl; omega
  rw [decL_snoc] at h
  obtain ⟨m', hm', h⟩ := Option.bind_eq_some_iff.1 h
  split at h
  ·rename_i hc
   obtain rfl := Option.some.inj h
   have hb := decL_le l' 0 m' (by omega) hm'
   have h0' : ∀ r, l' ≠ 48 :: r := fun r e => h0 (r ++ [c]) (by rw [e]; rfl)
   have ih := numD_dec n l' m' hl' hm' (.inr h0')
   have h1 : 0 < m'.toNat := by
    rcases Nat.eq_zero_or_pos m'.toNat with e | e
    ·rw [e, numD_low 0 (by omega)] at ih
     exact absurd ih.symm (h0' [])
    ·exact e
   rw [numD_step _ (by omega), show (m' * 10 + (c - 48)).toNat / 10 = m'.toNat from by omega, ih]
   congr 2; omega
  ·cases h

/-- byte classes -/
def plainC (c : Int) : Bool := decide (32 ≤ c) && decide (c ≤ 126)
def smallC (c : Int) : Bool := decide (97 ≤ c) && decide (c ≤ 122)
def digitC (c : Int) : Bool := decide (48 ≤ c) && decide (c ≤ 57)
theorem l1In_eq (c a b : Int) : spec_l1In.f c a b = some (decide (a ≤ c) && decide (c ≤ b)) := by
 unfold spec_l1In.f; split <;> simp [*] <;> omega

theorem l1Digit_eq (c : Int) (h : wrap64 c = c) : spec_l1Digit.f c = some (digitC c) := by
 unfold spec_l1Digit.f; rw [h, l1In_eq]; rfl

theorem impl_NumText_eq (n : Int) (hn : n ≤ 9223372036854775807) : impl_NumText.f n = some (strOfNums (numD n.toNat)) := by
 have e : mx n 0 = ((n.toNat : Nat) : Int) := by unfold mx; split <;> omega
 unfold impl_NumText.f
 rw [e]
 unfold strconv_Itoa.f
 rw [if_pos (by omega), Option.bind_some]
 unfold Lib.itoa
 rw [if_neg (by omega), Int.toNat_natCast, strNum]

/-- a number of at most seven digits, no 0 ahead, not above a bound -/
def pnum (s : ByteArray) (most : Int) : Int × Bool :=
 match decL 0 (bytesOf s) with
 | none => (0, false)
 | some n => if 1 ≤ s.size ∧ s.size ≤ 7 ∧ ¬ (1 < s.size ∧ (bytesOf s).head? = some 48) ∧ n ≤ most then (n, true) else (0, false)
theorem pnum_yes (s : ByteArray) (most : Int) (u : Nat) (hu : bytesOf s = numD u) (h7 : s.size ≤ 7) (hm : (u : Int) ≤ most) : pnum s most = ((u : Int), true) := by
 unfold pnum
 rw [hu, decL_numD]
 have hne := numD_ne u
 have hl : s.size = (numD u).length := by rw [← hu, bytesOf_length]
 have h1 : 1 ≤ s.size := by
  rcases Nat.eq_zero_or_pos s.size with e | e
  ·rw [e] at hl; exact absurd (List.length_eq_zero_iff.1 hl.symm) hne
  ·exact e
 refine if_pos ⟨h1, h7, ?_, hm⟩
 rintro ⟨h2, h3⟩
 cases hd : numD u with
 | nil => exact hne hd
 | cons c r =>
  rw [hd] at h3 hl
  simp only [List.head?_cons, Option.some.injEq] at h3
  subst h3
  have := numD_48 u r hd
  subst this
  rw [numD_low 0 (by omega)] at hd
  obtain ⟨_, rfl⟩ := List.cons.inj hd
  simp at hl; omega
theorem pnum_no (s : ByteArray) (most : Int) (h : ∀ u : Nat, bytesOf s = numD u → s.size ≤ 7 → ¬ (u : Int) ≤ most) : pnum s most = (0, false) := by
 unfold pnum
 cases hd : decL 0 (bytesOf s) with
 | none => rfl
 | some n =>
  refine if_neg ?_
  rintro ⟨h1, h7, h0, hm⟩
  have hb := decL_le _ 0 n (by omega) hd
  have hl := bytesOf_length s
  have := numD_dec (s.size - 1) (bytesOf s) n (by omega) hd (by
   rcases Nat.eq_zero_or_pos (s.size - 1) with e | e
   ·exact .inl e
   ·refine .inr fun r hr => h0 ⟨by omega, by rw [hr]; rfl⟩)
  exact h n.toNat this.symm h7 (by omega)
theorem impl_ParseNum_eq (s : ByteArray) (most : Int) (hs : s.size ≤ 281474976710656) : impl_ParseNum.f s most = some (pnum s most) := by
 unfold impl_ParseNum.f
 rw [if_pos hs]
 have hbs : bytesOf s = s.data.toList.map fun b => (b.toNat : Int) := rfl
 by_cases hy : ∃ u : Nat, bytesOf s = numD u ∧ s.size ≤ 7 ∧ (u : Int) ≤ most
 ·obtain ⟨u, hu, h7, hm⟩ := hy
  rw [pnum_yes s most u hu h7 hm]
  have hlen : s.data.toList.length ≤ 18 := by have := data_length s; omega
  have hdec : Lib.decFrom 0 s.data.toList = some u := by
   have h1 := decL_from s.data.toList 0
   rw [← hbs, hu, show ((0 : Nat) : Int) = 0 from rfl, decL_numD] at h1
   cases hd : Lib.decFrom 0 s.data.toList with
   | none => rw [hd] at h1; cases h1
   | some m => rw [hd] at h1; have h2 : (u : Int) = (m : Int) := Option.some.inj h1; congr 1; omega
  have hat : Lib.atoiAll s.data.toList = .ok (u : Int) := by
   cases hl : s.data.toList with
   | nil => rw [hl] at hbs; rw [hu] at hbs; exact absurd hbs (numD_ne u)
   | cons c r =>
    have hc : 48 ≤ (c.toNat : Int) ∧ (c.toNat : Int) ≤ 57 := numD_dig u _ (by rw [← hu, hbs, hl]; simp)
    rw [Lib.atoiAll_plain c r (by omega) (by omega), ← hl, Lib.signless_short hlen]
    unfold Lib.decNat
    rw [if_neg (by rw [hl]; simp), hdec]
    rfl
  have hn := numD_len 6 u
  have hlt : (u : Int) < 10000000 := by
   have := (decL_le _ 0 _ (by omega) (decL_numD u)).2
   rw [← hu, bytesOf_length] at this
   have h3 : (10 : Int) ^ s.size ≤ 10 ^ 7 := by
    have := Nat.pow_le_pow_right (n := 10) (by decide) h7
    exact_mod_cast this
   have e7 : (10 : Int) ^ 7 = 10000000 := by decide
   omega
  rw [hat]
  (try simp only [])
  rw [if_neg (by omega), if_neg (by omega), if_neg (by omega), impl_NumText_eq _ (by omega), Option.bind_some, Int.toNat_natCast]
  rw [if_pos]
  rw [← hu, strOfNums_bytesOf]
 ·rw [pnum_no s most (fun u h1 h2 h3 => hy ⟨u, h1, h2, h3⟩)]
  cases hat : Lib.atoiAll s.data.toList with
  | range => rfl
  | ok v =>
   have hb := Lib.atoiAll_bounds hat
   (try simp only [])
   by_cases h1 : v < 0
   ·rw [if_pos h1]
   by_cases h2 : most < v
   ·rw [if_neg h1, if_pos h2]
   by_cases h3 : 7 < s.size
   ·rw [if_neg h1, if_neg h2, if_pos h3]
   rw [if_neg h1, if_neg h2, if_neg h3, impl_NumText_eq _ hb.2, Option.bind_some]
   rw [if_neg]
   intro e
   refine hy ⟨v.toNat, ?_, by omega, by omega⟩
   have : strOfNums (numD v.toNat) = s := (toList_iff _ _).1 e
   rw [← this, bytesOf_strOfNums _ (numD_range _)]
  | _ => rfl
def pnFin (s : ByteArray) (most n : Int) : Int × Bool := if 1 ≤ s.size ∧ s.size ≤ 7 ∧ ¬ (1 < s.size ∧ (bytesOf s).head? = some 48) ∧ n ≤ most then (n, true) else (0, false)
def pnRest (s : ByteArray) (most n : Int) (l : List Int) : Int × Bool := match decL n l with
 | none => (0, false)
 | some m => pnFin s most m
theorem pnFin_long (s : ByteArray) (most n : Int) (h : 7 < s.size) : pnFin s most n = (0, false) := by
 unfold pnFin; rw [if_neg (by omega)]
theorem pnRest_long (s : ByteArray) (most n : Int) (l : List Int) (h : 7 < s.size) : pnRest s most n l = (0, false) := by
 unfold pnRest
 cases decL n l with
 | none => rfl
 | some m => exact pnFin_long s most m h
theorem head_bt (s : ByteArray) (h : 0 < s.size) : (bytesOf s).head? = some (bt s 0) := by
 cases hb : bytesOf s with
 | nil => have := bytesOf_length s; rw [hb] at this; simp at this; omega
 | cons c r =>
  have := (bt_drop (s := s) (i := 0) (by rw [List.drop_zero]; exact hb)).1
  rw [show ((0 : Nat) : Int) = 0 from rfl] at this
  rw [this]; rfl
theorem spec_ParseNum_j1 (s : ByteArray) (most n i : Int) : Ev (fun k => spec_ParseNum.j1 k s most n i false) (pnFin s most n) := by
 apply ev_succ
 simp only [spec_ParseNum.j1, Bool.false_eq_true, if_false, l1In_eq, Option.bind_some]
 refine ev_iteB (fun q => ?_) (fun q => ?_)
 ·simp only [Bool.and_eq_true, decide_eq_true_eq] at q
  refine ev_ite (fun q1 => ?_) (fun q1 => ?_)
  ·rw [if_pos (show (0 : Int) < (s.size : Int) by omega)]
   have hb := head_bt s (by omega)
   by_cases q2 : bt s 0 = 48
   ·rw [if_pos q2]
    have : pnFin s most n = (0, false) := by
     unfold pnFin
     rw [hb, q2, if_neg (fun h => h.2.2.1 ⟨by omega, rfl⟩)]
    rw [this]; exact Ev.now _
   ·rw [if_neg q2]
    have hq : ¬ (1 < s.size ∧ (bytesOf s).head? = some 48) := fun h => q2 (by have := h.2; rw [hb] at this; exact Option.some.inj this)
    by_cases q3 : n > most
    ·rw [if_pos q3]
     have : pnFin s most n = (0, false) := by unfold pnFin; rw [if_neg (by omega)]
     rw [this]; exact Ev.now _
    ·rw [if_neg q3]
     have : pnFin s most n = (n, true) := by unfold pnFin; rw [if_pos ⟨by omega, by omega, hq, by omega⟩]
     rw [this]; exact Ev.now _
  ·by_cases q3 : n > most
   ·rw [if_pos q3]
    have : pnFin s most n = (0, false) := by unfold pnFin; rw [if_neg (by omega)]
    rw [this]; exact Ev.now _
   ·rw [if_neg q3]
    have : pnFin s most n = (n, true) := by unfold pnFin; rw [if_pos ⟨by omega, by omega, fun h => by omega, by omega⟩]
    rw [this]; exact Ev.now _
 ·have : pnFin s most n = (0, false) := by
   unfold pnFin
   rw [if_neg]
   rintro ⟨h1, h2, _⟩
   rw [decide_eq_true (by omega), decide_eq_true (by omega)] at q
   cases q
  rw [this]; exact Ev.now _
theorem spec_ParseNum_ev (s : ByteArray) (most : Int) (hs : s.size ≤ 140737488351232) : Ev (fun k => spec_ParseNum.f k s most) (pnum s most) := by
 have := str_loop_st s (fun i n k => spec_ParseNum.l0 k s most n (i : Int)) (fun i n r => pnRest s most n r) (fun i n r => i ≤ 8 ∧ 0 ≤ n ∧ n < 10 ^ i ∧ i + r.length = s.size) ?_ ?_ hs 0 0 ⟨by omega, by omega, by simp, by simp [bytesOf_length]⟩
 ·exact this
 ·intro i n ⟨h8, h0, hn, hl⟩ hi
  apply ev_succ
  simp only [spec_ParseNum.l0, if_neg (show ¬ (i : Int) < s.size by omega)]
  exact spec_ParseNum_j1 s most n i
 ·intro i n c r ⟨h8, h0, hn, hl⟩ h hb hi hw hw1 ih
  have hc := bytesOf_range s c (List.mem_of_mem_drop (by rw [h]; simp : c ∈ (bytesOf s).drop i))
  apply ev_succ
  simp only [spec_ParseNum.l0, if_pos (show (i : Int) < s.size by omega)]
  rcases Nat.lt_or_ge i 8 with q8 | q8
  ·rw [decide_eq_true (by omega)]
   apply ev_succ
   simp only [spec_ParseNum.j1, if_true, if_pos (show (0 : Int) ≤ (i : Int) by omega), if_pos (show (i : Int) < s.size by omega), hb, l1Digit_eq c hw, Option.bind_some, hw1]
   have hp : (10 : Int) ^ i ≤ 10 ^ 7 := by
    have := Nat.pow_le_pow_right (n := 10) (by decide) (show i ≤ 7 by omega)
    exact_mod_cast this
   have e7 : (10 : Int) ^ 7 = 10000000 := by decide
   by_cases qd : 48 ≤ c ∧ c ≤ 57
   ·have hd : digitC c = true := by simp only [digitC, Bool.and_eq_true, decide_eq_true_eq]; exact qd
    simp only [hd, if_true]
    rw [wrap_id (x := n * 10) (by omega) (by omega), show (c - 48) % 256 = c - 48 by omega, wrap_id (x := n * 10 + (c - 48)) (by omega) (by omega)]
    have := ih (n * 10 + (c - 48)) ⟨by omega, by omega, by rw [Int.pow_succ]; omega, by simp at hl ⊢; omega⟩
    have e : pnRest s most n (c :: r) = pnRest s most (n * 10 + (c - 48)) r := by
     unfold pnRest; simp only [decL, if_pos qd]
    rw [e]; exact this
   ·have hd : digitC c = false := by rw [← Bool.not_eq_true]; simp only [digitC, Bool.and_eq_true, decide_eq_true_eq]; exact qd
    simp only [hd, Bool.false_eq_true, if_false]
    have e : pnRest s most n (c :: r) = (0, false) := by
     unfold pnRest; simp only [decL, if_neg qd]
    rw [e]; exact Ev.now _
  ·rw [decide_eq_false (by omega), pnRest_long s most n (c :: r) (by simp at hl; omega)]
   have := spec_ParseNum_j1 s most n i
   rw [pnFin_long s most n (by simp at hl; omega)] at this
   exact this

theorem pnum_bound (s : ByteArray) (most : Int) (h : (pnum s most).2 = true) : 0 ≤ (pnum s most).1 ∧ (pnum s most).1 ≤ most ∧ ∀ c ∈ bytesOf s, 48 ≤ c ∧ c ≤ 57 := by
 unfold pnum at *
 cases hd : decL 0 (bytesOf s) with
 | none => rw [hd] at h; cases h
 | some n =>
  rw [hd] at h
  simp only [] at h ⊢
  split at h
  ·rename_i hq
   rw [if_pos hq]
   refine ⟨(decL_le _ 0 n (by omega) hd).1, hq.2.2.2, ?_⟩
   have key : ∀ (l : List Int) (a m : Int), decL a l = some m → ∀ c ∈ l, 48 ≤ c ∧ c ≤ 57 := by
    intro l
    induction l with
    | nil => intro a m _ c hc; cases hc
    | cons d r ih =>
     intro a m hm c hc
     simp only [decL] at hm
     split at hm
     ·rename_i hd
      rcases List.mem_cons.1 hc with rfl | hc
      ·exact hd
      ·exact ih _ m hm c hc
     ·cases hm
   exact key _ 0 n hd
  ·cases h

/-! what is read of an answer's bytes -/
def P9 : ByteArray := ⟨#[72, 84, 84, 80, 47, 49, 46, 49, 32]⟩
def CLp : ByteArray := ⟨#[99, 111, 110, 116, 101, 110, 116, 45, 108, 101, 110, 103, 116, 104, 58, 32]⟩
def cut4 (l : List Int) : List Int × List Int × Bool := if fnd4 0 l < 0 then (l, [], false) else (l.take ((fnd4 0 l).toNat - 4), l.drop (fnd4 0 l).toNat, true)
def tpre (s p : ByteArray) : ByteArray := ⟨(Lib.trimPrefix s.data.toList p.data.toList).toArray⟩
theorem tpre_size (s p : ByteArray) : (tpre s p).size ≤ s.size := by
 have e : (tpre s p).size = (Lib.trimPrefix s.data.toList p.data.toList).length := rfl
 have e2 : s.size = s.data.toList.length := rfl
 rw [e, e2]
 unfold Lib.trimPrefix
 split
 ·rw [List.length_drop]; omega
 ·exact Nat.le_refl _
theorem tpre_app (s p d : ByteArray) (h : bytesOf s = bytesOf p ++ bytesOf d) : tpre s p = d := by
 have h2 : s = p ++ d := bytesOf_inj (by rw [h, bytesOf_append])
 subst h2
 apply bytesOf_inj
 unfold tpre Lib.trimPrefix Lib.hasPrefix
 have e : (p ++ d).data.toList = p.data.toList ++ d.data.toList := by simp [ByteArray.data_append]
 rw [e, if_pos (by simp)]
 rw [bytesOf_mk, List.drop_left]
 rfl
theorem mem_linesC : ∀ (l : List Int) (cur : List Int), (∀ x ∈ l, 0 ≤ x ∧ x < 256) → (∀ x ∈ cur, 0 ≤ x ∧ x < 256) → ∀ a ∈ splC cur l, (∀ x ∈ a, 0 ≤ x ∧ x < 256) ∧ a.length ≤ cur.length + l.length
 | [], cur, _, hc, a, ha => by
  rw [splC, List.mem_singleton] at ha
  subst ha; exact ⟨hc, by simp⟩
 | [c], cur, hl, hc, a, ha => by
  rw [splC, List.mem_singleton] at ha
  subst ha
  refine ⟨fun x hx => ?_, by simp⟩
  rcases List.mem_append.1 hx with h | h
  ·exact hc x h
  ·exact hl x h
 | c :: d :: r, cur, hl, hc, a, ha => by
  rw [splC] at ha
  split at ha
  ·rcases List.mem_cons.1 ha with h | h
   ·subst h; exact ⟨hc, by omega⟩
   ·have := mem_linesC r [] (fun x hx => hl x (by simp [hx])) (by simp) a h
    refine ⟨this.1, ?_⟩
    have h2 := this.2
    simp only [List.length_nil, List.length_cons] at h2 ⊢
    omega
  ·have := mem_linesC (d :: r) (cur ++ [c]) (fun x hx => hl x (List.mem_cons_of_mem _ hx)) (fun x hx => by
    rcases List.mem_append.1 hx with h | h
    ·exact hc x h
    ·rw [List.mem_singleton] at h; subst h; exact hl x (by simp)) a ha
   refine ⟨this.1, ?_⟩
   have h2 := this.2
   simp only [List.length_append, List.length_cons, List.length_nil] at h2 ⊢
   omega
theorem linesC_size {l : List Int} (hl : ∀ x ∈ l, 0 ≤ x ∧ x < 256) : ∀ s ∈ linesC l, s.size ≤ l.length := by
 intro s hs
 obtain ⟨a, ha, rfl⟩ := List.mem_map.1 hs
 have := (mem_linesC l [] hl (by simp) a ha).2
 rw [strOfNums_size]; simpa using this
theorem splC_len : ∀ (l cur : List Int), 1 ≤ (splC cur l).length ∧ (splC cur l).length ≤ l.length + 1
 | [], cur => by simp [splC]
 | [c], cur => by simp [splC]
 | c :: d :: r, cur => by
  rw [splC]
  split
  ·have := splC_len r []
   simp only [List.length_cons]; omega
  ·have := splC_len (d :: r) (cur ++ [c])
   simp only [List.length_cons] at this ⊢; omega
theorem linesC_len (l : List Int) : 1 ≤ (linesC l).length ∧ (linesC l).length ≤ l.length + 1 := by
 unfold linesC; rw [List.length_map]; exact splC_len l []
theorem fnd4_4 : ∀ (t : List Int) (i : Nat), 0 ≤ fnd4 i t → (i : Int) + 4 ≤ fnd4 i t ∧ fnd4 i t ≤ i + t.length
 | [], i, h => by simp [fnd4] at h
 | c :: r, i, h => by
  rw [fnd4] at h ⊢
  by_cases q : (c :: r).take 4 = [13, 10, 13, 10]
  ·rw [if_pos q]
   have := congrArg List.length q
   simp at this
   simp only [List.length_cons]
   omega
  ·rw [if_neg q] at h ⊢
   have := fnd4_4 r (i + 1) h
   simp only [List.length_cons]
   omega
theorem cut4_len (l : List Int) : (cut4 l).1.length ≤ l.length ∧ (cut4 l).2.1.length ≤ l.length := by
 unfold cut4
 split
 ·simp
 ·simp only [List.length_take, List.length_drop]; omega
theorem cut4_range {l : List Int} (hl : ∀ x ∈ l, 0 ≤ x ∧ x < 256) : (∀ x ∈ (cut4 l).1, 0 ≤ x ∧ x < 256) ∧ ∀ x ∈ (cut4 l).2.1, 0 ≤ x ∧ x < 256 := by
 unfold cut4
 split
 ·exact ⟨hl, by simp⟩
 ·exact ⟨fun x hx => hl x (List.mem_of_mem_take hx), fun x hx => hl x (List.mem_of_mem_drop hx)⟩
theorem cut_four (l : List Int) (hl : l.length ≤ 1048576) (hr : ∀ x ∈ l, 0 ≤ x ∧ x < 256) : strings_Cut.f (strOfNums l) (⟨#[13, 10, 13, 10]⟩ : ByteArray) = some (strOfNums (cut4 l).1, strOfNums (cut4 l).2.1, (cut4 l).2.2) := by
 have h0 := index_fnd4 l 0 hr
 have hg := Lib.index_ge (l.map fun n => UInt8.ofNat n.toNat) [13, 10, 13, 10]
 unfold strings_Cut.f cut4
 rw [if_pos (by rw [strOfNums_size]; omega)]
 have e0 : (⟨#[13, 10, 13, 10]⟩ : ByteArray).data.toList = [13, 10, 13, 10] := rfl
 rw [e0, strOfNums_data]
 unfold Lib.cut
 generalize Lib.index (l.map fun n => UInt8.ofNat n.toNat) [13, 10, 13, 10] = j at h0 hg
 by_cases q : j < 0
 ·rw [if_pos q] at h0
  rw [if_neg (by omega), if_pos (by omega)]
  rfl
 ·rw [if_neg q] at h0
  rw [if_pos (by omega), if_neg (by omega)]
  have hb : bytesOf (strOfNums l) = (l.map fun n => UInt8.ofNat n.toNat).map fun b => (b.toNat : Int) := by
   rw [show bytesOf (strOfNums l) = (strOfNums l).data.toList.map fun b => (b.toNat : Int) from rfl, strOfNums_data]
  rw [bytesOf_strOfNums l hr] at hb
  congr 1
  refine Prod.ext ?_ (Prod.ext ?_ rfl)
  ·apply bytesOf_inj
   rw [bytesOf_mk, bytesOf_strOfNums _ (fun x hx => hr x (List.mem_of_mem_take hx)), List.map_take, ← hb]
   congr 1; omega
  ·apply bytesOf_inj
   rw [bytesOf_mk, bytesOf_strOfNums _ (fun x hx => hr x (List.mem_of_mem_drop hx)), List.map_drop, ← hb]
   congr 1
   simp only [List.length_cons, List.length_nil]; omega
theorem split_lines (l : List Int) (hl : l.length ≤ 1048576) (hr : ∀ x ∈ l, 0 ≤ x ∧ x < 256) : strings_Split.f (strOfNums l) (⟨#[13, 10]⟩ : ByteArray) = some (linesC l) := by
 unfold strings_Split.f
 rw [if_pos ⟨by rw [strOfNums_size]; omega, by decide⟩, splitB_linesC _ _ (Nat.le_refl _), bytesOf_strOfNums l hr]
theorem hasPrefix_pre (l t : List Int) (hr : ∀ x ∈ l, 0 ≤ x ∧ x < 256) (ht : ∀ x ∈ t, 0 ≤ x ∧ x < 256) : strings_HasPrefix.f (strOfNums l) (strOfNums t) = some (decide (t <+: l)) := by
 unfold strings_HasPrefix.f Lib.hasPrefix
 congr 1
 rw [Bool.eq_iff_iff, List.isPrefixOf_iff_prefix, decide_eq_true_iff]
 have h1 : bytesOf (strOfNums l) = (strOfNums l).data.toList.map fun b => (b.toNat : Int) := rfl
 have h2 : bytesOf (strOfNums t) = (strOfNums t).data.toList.map fun b => (b.toNat : Int) := rfl
 rw [bytesOf_strOfNums l hr] at h1
 rw [bytesOf_strOfNums t ht] at h2
 constructor
 ·rintro ⟨u, hu⟩
  refine ⟨u.map fun b => (b.toNat : Int), ?_⟩
  rw [h2, ← List.map_append, hu, ← h1]
 ·rintro ⟨u, hu⟩
  refine ⟨(strOfNums u).data.toList, ?_⟩
  have : strOfNums t ++ strOfNums u = strOfNums l := by
   apply bytesOf_inj
   rw [bytesOf_append, bytesOf_strOfNums l hr, bytesOf_strOfNums t ht, bytesOf_strOfNums u (fun x hx => hr x (by rw [← hu]; exact List.mem_append_right _ hx)), hu]
  rw [← this]; simp [ByteArray.data_append]

theorem head_eq (x y : S88) : x = y ↔ x.f0 = y.f0 ∧ x.f1 = y.f1 := by cases x; cases y; simp
def lenB (s : ByteArray) (a b : Int) : Bool := decide (a ≤ (s.size : Int)) && decide ((s.size : Int) ≤ b)

theorem in_eq (c a b : Int) : impl_in.f c a b = some (decide (a ≤ c) && decide (c ≤ b)) := by
 unfold impl_in.f; split <;> simp [*] <;> omega

theorem isSmall_eq (c : Int) : impl_isSmall.f c = some (smallC c) := by
 unfold impl_isSmall.f smallC; split <;> simp [*] <;> omega

theorem isDigit_eq (c : Int) : impl_isDigit.f c = some (digitC c) := by
 unfold impl_isDigit.f digitC; split <;> simp [*] <;> omega

theorem l1Small_eq (c : Int) (h : wrap64 c = c) : spec_l1Small.f c = some (smallC c) := by
 unfold spec_l1Small.f; rw [h, l1In_eq]; rfl

/-- a small name -/
def snC (first : Bool) (c : Int) : Bool := smallC c || (!first && (digitC c || decide (c = 45)))
def snB : Nat → List Int → Bool
 | _, [] => true
 | i, c :: r => snC (i == 0) c && snB (i + 1) r
def smallName (s : ByteArray) : Bool := snB 0 (bytesOf s) && lenB s 1 20
theorem impl_SmallName_ev (s : ByteArray) (hs : s.size ≤ 140737488351232) : Ev (fun k => impl_SmallName.f k s) (smallName s) := by
 refine str_loop_st s (fun i (_ : Unit) k => impl_SmallName.l0 k s (i : Int)) (fun i _ r => snB i r && lenB s 1 20) (fun _ _ _ => True) ?_ ?_ hs 0 () trivial
 ·intro i _ _ hi
  apply ev_succ; simp only [impl_SmallName.l0, if_neg (show ¬ (i : Int) < s.size by omega), in_eq, Option.bind_some]; exact Ev.now _
 ·intro i _ c r _ h hb hi hw hw1 ih
  replace ih := ih () trivial
  apply ev_succ
  simp only [impl_SmallName.l0, if_pos (show (i : Int) < s.size by omega), if_pos (show (0 : Int) ≤ i by omega), hb, isSmall_eq, isDigit_eq, Option.bind_some, hw1]
  refine ev_iteB (fun q => ?_) (fun q => ev_ite (fun q0 => ?_) (fun q0 => ?_))
  ·simpa [snB, snC, q] using ih
  ·have : i = 0 := by omega
   subst this; simpa [snB, snC, q] using Ev.now false
  ·have hi0 : (i == 0) = false := by simp; omega
   refine ev_iteB (fun q1 => ?_) (fun q1 => ev_ite (fun q2 => ?_) (fun q2 => ?_))
   ·simpa [snB, snC, q, hi0, q1] using ih
   ·subst q2; simpa [snB, snC, q, hi0, q1] using ih
   ·simpa [snB, snC, q, hi0, q1, q2] using Ev.now false
theorem spec_SmallName_ev (s : ByteArray) (hs : s.size ≤ 140737488351232) : Ev (fun k => spec_SmallName.f k s) (smallName s) := by
 refine str_loop_st s (fun i (_ : Unit) k => spec_SmallName.l0 k s (i : Int)) (fun i _ r => snB i r && lenB s 1 20) (fun _ _ _ => True) ?_ ?_ hs 0 () trivial
 ·intro i _ _ hi
  apply ev_succ; simp only [spec_SmallName.l0, if_neg (show ¬ (i : Int) < s.size by omega), l1In_eq, Option.bind_some]; exact Ev.now _
 ·intro i _ c r _ h hb hi hw hw1 ih
  replace ih := ih () trivial
  apply ev_succ
  simp only [spec_SmallName.l0, if_pos (show (i : Int) < s.size by omega), if_pos (show (0 : Int) ≤ i by omega), hb, l1Small_eq c hw, l1Digit_eq c hw, Option.bind_some, hw1]
  refine ev_iteB (fun q => ?_) (fun q => ev_ite (fun q0 => ?_) (fun q0 => ?_))
  ·simpa [snB, snC, q] using ih
  ·have : i = 0 := by omega
   subst this; simpa [snB, snC, q] using Ev.now false
  ·have hi0 : (i == 0) = false := by simp; omega
   refine ev_iteB (fun q1 => ?_) (fun q1 => ev_ite (fun q2 => ?_) (fun q2 => ?_))
   ·simpa [snB, snC, q, hi0, q1] using ih
   ·subst q2; simpa [snB, snC, q, hi0, q1] using ih
   ·simpa [snB, snC, q, hi0, q1, q2] using Ev.now false

theorem isPlain_eq (c : Int) : impl_isPlain.f c = some (plainC c) := by
 unfold impl_isPlain.f plainC; split <;> simp [*] <;> omega
def plainB (l : List Int) : Bool := l.all plainC
theorem impl_Plain_ev (s : ByteArray) (hs : s.size ≤ 140737488351232) : Ev (fun k => impl_Plain.f k s) (plainB (bytesOf s)) := by
 refine str_loop s (fun i k => impl_Plain.l0 k s (i : Int)) plainB ?_ ?_ hs 0
 ·intro i hi
  apply ev_succ; simp only [impl_Plain.l0, if_neg (show ¬ (i : Int) < s.size by omega)]; exact Ev.now _
 ·intro i c r h hb hi hw hw1 ih
  apply ev_succ
  simp only [impl_Plain.l0, if_pos (show (i : Int) < s.size by omega), if_pos (show (0 : Int) ≤ i by omega), hb, isPlain_eq, Option.bind_some, hw1]
  refine ev_ite (fun h => ?_) (fun h => ?_)
  ·simpa [plainB, h] using ih
  ·simpa [plainB, h] using Ev.now _
theorem spec_Plain_ev (s : ByteArray) (hs : s.size ≤ 140737488351232) : Ev (fun k => spec_Plain.f k s) (plainB (bytesOf s)) := by
 refine str_loop s (fun i k => spec_Plain.l0 k s (i : Int)) plainB ?_ ?_ hs 0
 ·intro i hi
  apply ev_succ; simp only [spec_Plain.l0, if_neg (show ¬ (i : Int) < s.size by omega)]; exact Ev.now _
 ·intro i c r h hb hi hw hw1 ih
  apply ev_succ
  simp only [spec_Plain.l0, if_pos (show (i : Int) < s.size by omega), if_pos (show (0 : Int) ≤ i by omega), hb, hw, l1In_eq, Option.bind_some, hw1]
  refine ev_ite (fun h => ?_) (fun h => ?_)
  ·have : plainC c = true := h
   simpa [plainB, this] using ih
  ·have : plainC c = false := by simpa [plainC] using h
   simpa [plainB, this] using Ev.now _

def blankC (c : Int) : Bool := decide (c = 32) || decide (c = 9)
def trimL (l : List Int) : List Int := l.dropWhile blankC
def trimR (l : List Int) : List Int := (l.reverse.dropWhile blankC).reverse
theorem trimR_cons (c : Int) (r : List Int) : trimR (c :: r) = if trimR r = [] then (if blankC c = true then [] else [c]) else c :: trimR r := by
 unfold trimR
 rw [List.reverse_cons, List.dropWhile_append]
 by_cases h : r.reverse.dropWhile blankC = []
 ·rw [h]
  by_cases q : blankC c = true
  ·simp [q]
  ·simp [q]
 ·have : (r.reverse.dropWhile blankC).isEmpty = false := by simpa using h
  rw [this]
  simp [h]
theorem trim_comm : ∀ l : List Int, trimL (trimR l) = trimR (trimL l)
 | [] => rfl
 | c :: r => by
  have ih := trim_comm r
  rw [trimR_cons]
  by_cases q : blankC c = true
  ·have e : trimL (c :: r) = trimL r := by unfold trimL; rw [List.dropWhile_cons_of_pos q]
   rw [e, ← ih]
   by_cases h : trimR r = []
   ·rw [if_pos h, if_pos q, h]
   ·rw [if_neg h]
    unfold trimL; rw [List.dropWhile_cons_of_pos q]
  ·have e : ∀ x : List Int, trimL (c :: x) = c :: x := fun x => by unfold trimL; rw [List.dropWhile_cons_of_neg q]
   rw [e, trimR_cons]
   by_cases h : trimR r = []
   ·rw [if_pos h, if_neg q]; exact e []
   ·rw [if_neg h]; exact e _
def trim (s : ByteArray) : ByteArray := strOfNums (trimL (trimR (bytesOf s)))
theorem mem_trim {l : List Int} {x : Int} (h : x ∈ trimL (trimR l)) : x ∈ l := by
 unfold trimL trimR at h
 have h1 := (List.dropWhile_sublist _).subset h
 have h2 := (List.dropWhile_sublist _).subset (List.mem_reverse.1 h1)
 exact List.mem_reverse.1 h2
theorem trim_bytes (s : ByteArray) : bytesOf (trim s) = trimL (trimR (bytesOf s)) := bytesOf_strOfNums _ (fun x hx => bytesOf_range s x (mem_trim hx))
theorem dropWhile_map_ {α β : Type} (f : α → β) (p : β → Bool) : ∀ l : List α, (l.map f).dropWhile p = (l.dropWhile (fun x => p (f x))).map f
 | [] => rfl
 | x :: r => by
  rw [List.map_cons]
  by_cases q : p (f x) = true
  ·rw [List.dropWhile_cons_of_pos q, List.dropWhile_cons_of_pos (by exact q), dropWhile_map_ f p r]
  ·rw [List.dropWhile_cons_of_neg q, List.dropWhile_cons_of_neg (by exact q), List.map_cons]
theorem blank_u8 (b : UInt8) : ([32, 9] : List UInt8).contains b = blankC (b.toNat : Int) := by
 have H : ∀ n : Fin 256, ([32, 9] : List UInt8).contains (UInt8.ofNat n.val) = blankC (n.val : Int) := by decide +kernel
 have := H ⟨b.toNat, b.toNat_lt⟩
 simpa using this
theorem impl_Trim_eq (s : ByteArray) (hs : s.size ≤ 140737488351232) : impl_Trim.f s = some (trim s) := by
 unfold impl_Trim.f strings_Trim.f
 rw [if_pos ⟨by omega, by decide, by decide⟩]
 simp only [Option.bind_some]
 congr 1
 apply bytesOf_inj
 rw [trim_bytes, bytesOf_mk]
 unfold Lib.trimS Lib.trimLeftS Lib.trimRightS trimL trimR bytesOf
 have e : (fun x : UInt8 => ([32, 9] : List UInt8).contains x) = fun x => blankC (x.toNat : Int) := funext blank_u8
 show List.map _ (List.dropWhile (fun x => ([32, 9] : List UInt8).contains x) (List.dropWhile (fun x => ([32, 9] : List UInt8).contains x) s.data.toList.reverse).reverse) = _
 rw [e, ← List.map_reverse, dropWhile_map_, ← List.map_reverse, dropWhile_map_]
theorem l1Blank_eq (c : Int) : spec_l1Blank.f c = some (blankC c) := by
 unfold spec_l1Blank.f blankC
 by_cases h : c = 32
 ·rw [if_pos h]; simp [h]
 ·rw [if_neg h]; simp [h]; rfl
theorem bytesOf_one {x : ByteArray} {c : Int} {r : List Int} (h : bytesOf x = c :: r) : bt x 0 = c ∧ bytesOf (x.extract 1 x.size) = r ∧ x.size = r.length + 1 := by
 have hd : (bytesOf x).drop 0 = c :: r := by simpa using h
 obtain ⟨h1, h2, h3⟩ := bt_drop hd
 refine ⟨by simpa using h1, ?_, by rw [size_len, h]; rfl⟩
 rw [bytesOf_extract, List.take_of_length_le (by rw [← size_len]; exact Nat.le_refl _)]
 exact h3
theorem bytesOf_last {x : ByteArray} {c : Int} {r : List Int} (h : bytesOf x = r ++ [c]) : bt x (r.length : Int) = c ∧ bytesOf (x.extract 0 r.length) = r ∧ x.size = r.length + 1 := by
 have hd : (bytesOf x).drop r.length = [c] := by rw [h]; simp
 obtain ⟨h1, h2, h3⟩ := bt_drop hd
 refine ⟨h1, ?_, by rw [size_len, h]; simp⟩
 rw [bytesOf_extract, h]
 simp
theorem spec_Trim_l1 : ∀ (l : List Int) (x : ByteArray), bytesOf x = l.reverse → x.size ≤ 1048576 → Ev (fun k => spec_Trim.l1 k x) (strOfNums (trimR (bytesOf x)))
 | [], x, h, hs => by
  have h0 : x.size = 0 := by rw [size_len, h]; rfl
  apply ev_succ; simp only [spec_Trim.l1, if_neg (show ¬ (x.size : Int) > 0 by omega)]
  rw [h]
  have : x = strOfNums (trimR ([] : List Int).reverse) := by rw [← strOfNums_bytesOf x, h]; rfl
  rw [← this]; exact Ev.now _
 | c :: r, x, h, hs => by
  rw [List.reverse_cons] at h
  obtain ⟨h1, h2, h3⟩ := bytesOf_last h
  rw [List.length_reverse] at h1 h2 h3
  apply ev_succ
  simp only [spec_Trim.l1, if_pos (show (x.size : Int) > 0 by omega), show wrap64 ((x.size : Int) - 1) = (r.length : Int) from by rw [wrap_id (by omega) (by omega)]; omega, if_pos (show (0 : Int) ≤ (r.length : Int) by omega), if_pos (show (r.length : Int) < (x.size : Int) by omega), if_pos (show (r.length : Int) ≤ (x.size : Int) by omega), h1, l1Blank_eq, Option.bind_some, Int.toNat_natCast]
  refine ev_iteB (fun q => ?_) (fun q => ?_)
  ·have ih := spec_Trim_l1 r (x.extract 0 r.length) h2 (by rw [size_len, h2, List.length_reverse]; omega)
   have e : trimR (bytesOf x) = trimR (bytesOf (x.extract 0 r.length)) := by
    rw [h, h2]
    unfold trimR
    rw [List.reverse_append, List.reverse_reverse]
    show (List.dropWhile blankC (c :: r)).reverse = _
    rw [List.dropWhile_cons_of_pos q]
   rw [e]; exact ih
  ·have e : trimR (bytesOf x) = bytesOf x := by
    rw [h]
    unfold trimR
    rw [List.reverse_append, List.reverse_reverse]
    show (List.dropWhile blankC (c :: r)).reverse = _
    rw [List.dropWhile_cons_of_neg (by rw [q]; simp), List.reverse_cons]
   rw [e, strOfNums_bytesOf]; exact Ev.now _
theorem spec_Trim_l0 : ∀ (l : List Int) (x : ByteArray), bytesOf x = l → x.size ≤ 1048576 → Ev (fun k => spec_Trim.l0 k x) (strOfNums (trimR (trimL (bytesOf x))))
 | [], x, h, hs => by
  have h0 : x.size = 0 := by rw [size_len, h]; rfl
  apply ev_succ; simp only [spec_Trim.l0, if_neg (show ¬ (x.size : Int) > 0 by omega)]
  apply ev_succ; simp only [spec_Trim.j1]
  have := spec_Trim_l1 [] x h hs
  rwa [show trimL (bytesOf x) = bytesOf x by rw [h]; rfl]
 | c :: r, x, h, hs => by
  obtain ⟨h1, h2, h3⟩ := bytesOf_one h
  apply ev_succ
  simp only [spec_Trim.l0, if_pos (show (x.size : Int) > 0 by omega), if_pos (show (0 : Int) < (x.size : Int) by omega), if_pos (show (1 : Int) ≤ (x.size : Int) by omega), h1, l1Blank_eq, Option.bind_some]
  refine ev_iteB (fun q => ?_) (fun q => ?_)
  ·have ih := spec_Trim_l0 r (x.extract 1 x.size) h2 (by rw [size_len, h2]; omega)
   have e : trimL (bytesOf x) = trimL (bytesOf (x.extract 1 x.size)) := by
    rw [h, h2]
    unfold trimL
    rw [List.dropWhile_cons_of_pos q]
   rw [e]; exact ih
  ·have e : trimL (bytesOf x) = bytesOf x := by
    rw [h]
    unfold trimL
    rw [List.dropWhile_cons_of_neg (by rw [q]; simp)]
   rw [e]
   apply ev_succ; simp only [spec_Trim.j1]
   exact spec_Trim_l1 (bytesOf x).reverse x (by rw [List.reverse_reverse]) hs
theorem spec_Trim_ev (s : ByteArray) (hs : s.size ≤ 1048576) : Ev (fun k => spec_Trim.f k s) (trim s) := by
 unfold spec_Trim.f trim
 rw [trim_comm]
 exact spec_Trim_l0 _ s rfl hs

def valOk (s : ByteArray) : Bool := decide ((s.size : Int) ≤ 60) && (plainB (bytesOf s) && ((trim s).toList == s.toList))
def nameFree (s : ByteArray) : Bool := decide (¬ s.toList = ([99, 111, 110, 116, 101, 110, 116, 45, 108, 101, 110, 103, 116, 104] : List UInt8)) && decide (¬ s.toList = ([116, 114, 97, 110, 115, 102, 101, 114, 45, 101, 110, 99, 111, 100, 105, 110, 103] : List UInt8))
def headOk (h : S88) : Bool := smallName h.f0 && (valOk h.f1 && nameFree h.f0)
def headsOkL (l : List S88) : Bool := l.all headOk
def headsOk (l : List S88) : Bool := headsOkL l && decide ((l.length : Int) ≤ 8)
theorem impl_valOk_ev (s : ByteArray) (hs : s.size ≤ 1048576) : Ev (fun k => impl_valOk.f k s) (valOk s) := by
 unfold impl_valOk.f valOk
 refine ev_ite (fun q => ?_) (fun q => ?_)
 ·rw [decide_eq_true q, Bool.true_and]
  refine Ev.bind (impl_Plain_ev s (by omega)) (ev_iteB (fun q1 => ?_) (fun q1 => ?_))
  ·rw [q1, Bool.true_and]
   simp only [impl_Trim_eq s (by omega), Option.bind_some]; exact Ev.now _
  ·rw [q1, Bool.false_and]; exact Ev.now _
 ·rw [decide_eq_false q, Bool.false_and]; exact Ev.now _
theorem spec_l3Val_ev (s : ByteArray) (hs : s.size ≤ 1048576) : Ev (fun k => spec_l3Val.f k s) (valOk s) := by
 unfold spec_l3Val.f valOk
 refine ev_ite (fun q => ?_) (fun q => ?_)
 ·rw [decide_eq_true q, Bool.true_and]
  refine Ev.bind (spec_Plain_ev s (by omega)) (ev_iteB (fun q1 => ?_) (fun q1 => ?_))
  ·rw [q1, Bool.true_and]
   refine Ev.bind (spec_Trim_ev s hs) ?_
   exact Ev.now _
  ·rw [q1, Bool.false_and]; exact Ev.now _
 ·rw [decide_eq_false q, Bool.false_and]; exact Ev.now _
theorem impl_headsOk_ev (l : List S88) (hl : l.length ≤ 9223372036854775806) (hs : ∀ x ∈ l, x.f0.size ≤ 1048576 ∧ x.f1.size ≤ 1048576) : Ev (fun k => impl_headsOk.f k l) (headsOk l) := by
 refine list_loop_st l hl (fun i (_ : Unit) k => impl_headsOk.l0 k l l (l.length : Int) (i : Int)) (fun _ _ r => headsOkL r && decide ((l.length : Int) ≤ 8)) (fun _ _ r => ∀ x ∈ r, x.f0.size ≤ 1048576 ∧ x.f1.size ≤ 1048576) ?_ ?_ 0 () hs
 ·intro i _ _ hi
  apply ev_succ; simp only [impl_headsOk.l0, if_neg (show ¬ (i : Int) < l.length by omega)]; exact Ev.now _
 ·intro i _ c r hr h hb hi hw1 ih
  have hbb : rd_T88 l (i : Int) = c := hb _
  obtain ⟨hc0, hc1⟩ := hr c (by simp)
  replace ih := ih () (fun x hx => hr x (by simp [hx]))
  apply ev_succ
  simp only [impl_headsOk.l0, if_pos (show (i : Int) < l.length by omega), if_pos (show (0 : Int) ≤ i by omega), hbb, hw1]
  refine Ev.bind (impl_SmallName_ev c.f0 (by omega)) (ev_iteB (fun q1 => ?_) (fun q1 => ?_))
  ·refine Ev.bind (impl_valOk_ev c.f1 (by omega)) (ev_iteB (fun q2 => ?_) (fun q2 => ?_))
   ·refine ev_ite (fun q3 => ?_) (fun q3 => ev_ite (fun q4 => ?_) (fun q4 => ?_))
    ·rw [show (headsOkL (c :: r) && decide ((l.length : Int) ≤ 8)) = false by simp [headsOkL, headOk, nameFree, q3]]; exact Ev.now _
    ·rw [show (headsOkL (c :: r) && decide ((l.length : Int) ≤ 8)) = false by simp [headsOkL, headOk, nameFree, q4]]; exact Ev.now _
    ·rw [show headsOkL (c :: r) = headsOkL r by simp [headsOkL, headOk, nameFree, q1, q2, q3, q4]]; exact ih
   ·rw [show (headsOkL (c :: r) && decide ((l.length : Int) ≤ 8)) = false by simp [headsOkL, headOk, q2]]; exact Ev.now _
  ·rw [show (headsOkL (c :: r) && decide ((l.length : Int) ≤ 8)) = false by simp [headsOkL, headOk, q1]]; exact Ev.now _
theorem spec_l3Heads_ev (l : List S88) (hl : l.length ≤ 9223372036854775806) (hs : ∀ x ∈ l, x.f0.size ≤ 1048576 ∧ x.f1.size ≤ 1048576) : Ev (fun k => spec_l3Heads.f k l) (headsOk l) := by
 refine list_loop_st l hl (fun i (_ : Unit) k => spec_l3Heads.l0 k l (i : Int)) (fun _ _ r => headsOkL r && decide ((l.length : Int) ≤ 8)) (fun _ _ r => ∀ x ∈ r, x.f0.size ≤ 1048576 ∧ x.f1.size ≤ 1048576) ?_ ?_ 0 () hs
 ·intro i _ _ hi
  apply ev_succ; simp only [spec_l3Heads.l0, if_neg (show ¬ (i : Int) < l.length by omega)]; exact Ev.now _
 ·intro i _ c r hr h hb hi hw1 ih
  have hbb : rd_T88 l (i : Int) = c := hb _
  obtain ⟨hc0, hc1⟩ := hr c (by simp)
  replace ih := ih () (fun x hx => hr x (by simp [hx]))
  apply ev_succ
  simp only [spec_l3Heads.l0, if_pos (show (i : Int) < l.length by omega), if_pos (show (0 : Int) ≤ i by omega), hbb, hw1]
  refine Ev.bind (spec_SmallName_ev c.f0 (by omega)) (ev_iteB (fun q1 => ?_) (fun q1 => ?_))
  ·refine Ev.bind (spec_l3Val_ev c.f1 (by omega)) (ev_iteB (fun q2 => ?_) (fun q2 => ?_))
   ·refine ev_ite (fun q3 => ?_) (fun q3 => ev_ite (fun q4 => ?_) (fun q4 => ?_))
    ·rw [show (headsOkL (c :: r) && decide ((l.length : Int) ≤ 8)) = false by simp [headsOkL, headOk, nameFree, q3]]; exact Ev.now _
    ·rw [show (headsOkL (c :: r) && decide ((l.length : Int) ≤ 8)) = false by simp [headsOkL, headOk, nameFree, q4]]; exact Ev.now _
    ·rw [show headsOkL (c :: r) = headsOkL r by simp [headsOkL, headOk, nameFree, q1, q2, q3, q4]]; exact ih
   ·rw [show (headsOkL (c :: r) && decide ((l.length : Int) ≤ 8)) = false by simp [headsOkL, headOk, q2]]; exact Ev.now _
  ·rw [show (headsOkL (c :: r) && decide ((l.length : Int) ≤ 8)) = false by simp [headsOkL, headOk, q1]]; exact Ev.now _

def sameRespV (c : Int) (l : List S88) (b : ByteArray) (c' : Int) (l' : List S88) (b' : ByteArray) : Prop := c = c' ∧ l = l' ∧ b = b'
def respOk (c : Int) (l : List S88) (b : ByteArray) : Bool := (decide (100 ≤ c) && decide (c ≤ 599)) && (headsOk l && decide ((b.size : Int) ≤ 400))
theorem impl_RespOk_ev (c : Int) (l : List S88) (b : ByteArray) (hl : l.length ≤ 9223372036854775806) (hs : ∀ x ∈ l, x.f0.size ≤ 1048576 ∧ x.f1.size ≤ 1048576) : Ev (fun k => impl_RespOk.f k c l b) (respOk c l b) := by
 unfold impl_RespOk.f respOk
 simp only [in_eq, Option.bind_some]
 refine ev_iteB (fun q => ?_) (fun q => ?_)
 ·rw [q, Bool.true_and]
  refine Ev.bind (impl_headsOk_ev l hl hs) (ev_iteB (fun q1 => ?_) (fun q1 => ?_))
  ·rw [q1, Bool.true_and]; exact Ev.now _
  ·rw [q1, Bool.false_and]; exact Ev.now _
 ·rw [q, Bool.false_and]; exact Ev.now _
theorem spec_RespOk_ev (c : Int) (l : List S88) (b : ByteArray) (hl : l.length ≤ 9223372036854775806) (hs : ∀ x ∈ l, x.f0.size ≤ 1048576 ∧ x.f1.size ≤ 1048576) : Ev (fun k => spec_RespOk.f k c l b) (respOk c l b) := by
 unfold spec_RespOk.f respOk
 simp only [l1In_eq, Option.bind_some]
 refine ev_iteB (fun q => ?_) (fun q => ?_)
 ·rw [q, Bool.true_and]
  refine Ev.bind (spec_l3Heads_ev l hl hs) (ev_iteB (fun q1 => ?_) (fun q1 => ?_))
  ·rw [q1, Bool.true_and]; exact Ev.now _
  ·rw [q1, Bool.false_and]; exact Ev.now _
 ·rw [q, Bool.false_and]; exact Ev.now _

def htCat (x : ByteArray) (h : S88) : ByteArray := x ++ ((((h.f0) ++ (⟨#[58, 32]⟩ : ByteArray)) ++ h.f1) ++ (⟨#[13, 10]⟩ : ByteArray))
def htL : ByteArray → List S88 → ByteArray
 | x, [] => x
 | x, c :: r => htL (htCat x c) r
def headText (l : List S88) : ByteArray := htL (⟨#[]⟩ : ByteArray) l
theorem sz2a : (⟨#[58, 32]⟩ : ByteArray).size = 2 := rfl
theorem sz2b : (⟨#[13, 10]⟩ : ByteArray).size = 2 := rfl
theorem htCat_size (x : ByteArray) (h : S88) : (htCat x h).size = x.size + (h.f0.size + 2 + h.f1.size + 2) := by
 unfold htCat; simp only [ByteArray.size_append, sz2a, sz2b]
theorem htL_size : ∀ (l : List S88) (x : ByteArray), (∀ y ∈ l, y.f0.size ≤ 1048576 ∧ y.f1.size ≤ 1048576) → (htL x l).size ≤ x.size + l.length * 2097156
 | [], x, _ => by simp [htL]
 | c :: r, x, h => by
  have h1 := htL_size r (htCat x c) (fun y hy => h y (by simp [hy]))
  have h2 := h c (by simp)
  rw [htCat_size] at h1
  simp only [htL, List.length_cons]
  omega
theorem headText_size (l : List S88) (hl : l.length ≤ 1048576) (h : ∀ y ∈ l, y.f0.size ≤ 1048576 ∧ y.f1.size ≤ 1048576) : (headText l).size ≤ 2199027449856 := by
 have := htL_size l (⟨#[]⟩ : ByteArray) h
 rw [show (⟨#[]⟩ : ByteArray).size = 0 from rfl] at this
 unfold headText
 omega
theorem impl_headText_ev (l : List S88) (hl : l.length ≤ 1048576) (hs : ∀ x ∈ l, x.f0.size ≤ 1048576 ∧ x.f1.size ≤ 1048576) : Ev (fun k => impl_headText.f k l) (headText l) := by
 refine list_loop_st l (by omega) (fun i x k => impl_headText.l0 k x l (l.length : Int) (i : Int)) (fun _ x r => htL x r) (fun i x r => x.size ≤ i * 2097156 ∧ ∀ y ∈ r, y.f0.size ≤ 1048576 ∧ y.f1.size ≤ 1048576) ?_ ?_ 0 _ ⟨by rw [show (⟨#[]⟩ : ByteArray).size = 0 from rfl]; omega, hs⟩
 ·intro i x _ hi
  apply ev_succ; simp only [impl_headText.l0, if_neg (show ¬ (i : Int) < l.length by omega)]; exact Ev.now _
 ·intro i x c r ⟨hx, hr⟩ h hb hi hw1 ih
  have hbb : rd_T88 l (i : Int) = c := hb _
  obtain ⟨hc0, hc1⟩ := hr c (by simp)
  replace ih := ih (htCat x c) ⟨by rw [htCat_size]; omega, fun y hy => hr y (by simp [hy])⟩
  apply ev_succ
  simp only [impl_headText.l0, if_pos (show (i : Int) < l.length by omega), if_pos (show (0 : Int) ≤ i by omega), hbb, hw1, ByteArray.size_append, sz2a, sz2b, if_pos (show c.f0.size + 2 ≤ 9223372036854775807 by omega), if_pos (show c.f0.size + 2 + c.f1.size ≤ 9223372036854775807 by omega), if_pos (show c.f0.size + 2 + c.f1.size + 2 ≤ 9223372036854775807 by omega), if_pos (show x.size + (c.f0.size + 2 + c.f1.size + 2) ≤ 9223372036854775807 by omega)]
  exact ih
theorem htCat_assoc (x : ByteArray) (h : S88) : (((x ++ h.f0) ++ (⟨#[58, 32]⟩ : ByteArray)) ++ h.f1) ++ (⟨#[13, 10]⟩ : ByteArray) = htCat x h := by
 unfold htCat; simp only [ByteArray.append_assoc]
theorem spec_l3HeadsText_ev (l : List S88) (hl : l.length ≤ 1048576) (hs : ∀ x ∈ l, x.f0.size ≤ 1048576 ∧ x.f1.size ≤ 1048576) : Ev (fun k => spec_l3HeadsText.f k l) (headText l) := by
 refine list_loop_st l (by omega) (fun i x k => spec_l3HeadsText.l0 k l x (i : Int)) (fun _ x r => htL x r) (fun i x r => x.size ≤ i * 2097156 ∧ ∀ y ∈ r, y.f0.size ≤ 1048576 ∧ y.f1.size ≤ 1048576) ?_ ?_ 0 _ ⟨by rw [show (⟨#[]⟩ : ByteArray).size = 0 from rfl]; omega, hs⟩
 ·intro i x _ hi
  apply ev_succ; simp only [spec_l3HeadsText.l0, if_neg (show ¬ (i : Int) < l.length by omega)]; exact Ev.now _
 ·intro i x c r ⟨hx, hr⟩ h hb hi hw1 ih
  have hbb : rd_T88 l (i : Int) = c := hb _
  obtain ⟨hc0, hc1⟩ := hr c (by simp)
  replace ih := ih (htCat x c) ⟨by rw [htCat_size]; omega, fun y hy => hr y (by simp [hy])⟩
  apply ev_succ
  simp only [spec_l3HeadsText.l0, if_pos (show (i : Int) < l.length by omega), if_pos (show (0 : Int) ≤ i by omega), hbb, hw1, htCat_assoc, ByteArray.size_append, sz2a, sz2b, if_pos (show x.size + c.f0.size ≤ 9223372036854775807 by omega), if_pos (show x.size + c.f0.size + 2 ≤ 9223372036854775807 by omega), if_pos (show x.size + c.f0.size + 2 + c.f1.size ≤ 9223372036854775807 by omega), if_pos (show x.size + c.f0.size + 2 + c.f1.size + 2 ≤ 9223372036854775807 by omega)]
  exact ih

theorem spec_NumText_l0 : ∀ (n u : Nat) (x : ByteArray), u < 10 ^ (n + 1) → u ≤ 9223372036854775807 → x.size ≤ 1000 - n → n ≤ 20 → bytesOf x = (numD u).drop ((numD u).length - 1) ++ (bytesOf x).drop 1 → Ev (fun k => spec_NumText.l0 k (u : Int) x) (strOfNums (numD u ++ (bytesOf x).drop 1))
 | 0, u, x, h, hu, hx, hn, hb => by
  have h9 : u ≤ 9 := by omega
  apply ev_succ
  simp only [spec_NumText.l0, if_neg (show ¬ (u : Int) > 9 by omega)]
  rw [numD_low u h9] at hb ⊢
  simp only [List.length_cons, List.length_nil, List.drop_zero, Nat.zero_add, Nat.sub_self] at hb
  rw [← hb, strOfNums_bytesOf]
  exact Ev.now _
 | n + 1, u, x, h, hu, hx, hn, hb => by
  apply ev_succ
  rcases Nat.lt_or_ge 9 u with h9 | h9
  ·have hy : bytesOf (strOfNums [48 + ((u / 10 % 10 : Nat) : Int)]) = [48 + ((u / 10 % 10 : Nat) : Int)] := bytesOf_strOfNums _ (by intro z hz; simp at hz; omega)
   have hs1 : (strOfNums [48 + ((u / 10 % 10 : Nat) : Int)]).size = 1 := by rw [size_len, hy]; rfl
   simp only [spec_NumText.l0, if_pos (show (u : Int) > 9 by omega), tdiv_ten u hu, digit_byte (u / 10) (by omega), Option.bind_some, hs1, if_pos (show 1 + x.size ≤ 9223372036854775807 by omega)]
   have e : bytesOf (strOfNums [48 + ((u / 10 % 10 : Nat) : Int)] ++ x) = (48 + ((u / 10 % 10 : Nat) : Int)) :: bytesOf x := by rw [bytesOf_append, hy]; rfl
   have ih := spec_NumText_l0 n (u / 10) (strOfNums [48 + ((u / 10 % 10 : Nat) : Int)] ++ x) (by rw [Nat.pow_succ] at h; omega) (by omega) (by rw [ByteArray.size_append, hs1]; omega) (by omega) (by
    rw [e]
    simp only [List.drop_succ_cons, List.drop_zero]
    rcases Nat.lt_or_ge 9 (u / 10) with h10 | h10
    ·rw [numD_step (u / 10) h10]
     simp
    ·rw [numD_low (u / 10) h10, Nat.mod_eq_of_lt (by omega)]
     simp)
   rw [e] at ih
   simp only [List.drop_succ_cons, List.drop_zero] at ih
   rw [numD_step u h9] at hb ⊢
   simp only [List.length_append, List.length_cons, List.length_nil, Nat.zero_add, Nat.add_sub_cancel, List.drop_left] at hb
   rw [List.append_assoc, ← hb]
   exact ih
  ·simp only [spec_NumText.l0, if_neg (show ¬ (u : Int) > 9 by omega)]
   rw [numD_low u h9] at hb ⊢
   simp only [List.length_cons, List.length_nil, List.drop_zero, Nat.zero_add, Nat.sub_self] at hb
   rw [← hb, strOfNums_bytesOf]
   exact Ev.now _
theorem spec_NumText_j0 (u : Nat) (hu : u ≤ 9223372036854775807) : Ev (fun k => spec_NumText.j0 k (u : Int)) (strOfNums (numD u)) := by
 apply ev_succ
 simp only [spec_NumText.j0, digit_byte u hu]
 have hy : bytesOf (strOfNums [48 + ((u % 10 : Nat) : Int)]) = [48 + ((u % 10 : Nat) : Int)] := bytesOf_strOfNums _ (by intro z hz; simp at hz; omega)
 have hs1 : (strOfNums [48 + ((u % 10 : Nat) : Int)]).size = 1 := by rw [size_len, hy]; rfl
 have := spec_NumText_l0 18 u (strOfNums [48 + ((u % 10 : Nat) : Int)]) (by omega) hu (by omega) (by omega) (by
  rw [hy]
  rcases Nat.lt_or_ge 9 u with h9 | h9
  ·rw [numD_step u h9]; simp
  ·rw [numD_low u h9, Nat.mod_eq_of_lt (by omega)]; simp)
 rw [hy] at this
 simpa using this
theorem spec_NumText_ev (n : Int) (hn : n ≤ 9223372036854775807) : Ev (fun k => spec_NumText.f k n) (strOfNums (numD n.toNat)) := by
 unfold spec_NumText.f
 refine ev_ite (fun h => ?_) (fun h => ?_)
 ·rw [show n.toNat = 0 from by omega]
  exact spec_NumText_j0 0 (by omega)
 ·have := spec_NumText_j0 n.toNat (by omega)
  rwa [Int.toNat_of_nonneg (by omega)] at this

theorem lit_iff (s : ByteArray) (l : List UInt8) : s.toList = l ↔ bytesOf s = l.map fun b => (b.toNat : Int) := by
 rw [Lib.toList_data]
 unfold bytesOf
 constructor
 ·intro h; rw [h]
 ·intro h; exact List.map_inj_right (fun x y hxy => UInt8.toNat_inj.mp (by omega)) |>.mp h
theorem sz2c : (⟨#[13, 10]⟩ : ByteArray).size = 2 := rfl

def lenText (b : ByteArray) : ByteArray := ((⟨#[99, 111, 110, 116, 101, 110, 116, 45, 108, 101, 110, 103, 116, 104, 58, 32]⟩ : ByteArray) ++ strOfNums (numD b.size)) ++ (⟨#[13, 10]⟩ : ByteArray)
theorem sz16 : (⟨#[99, 111, 110, 116, 101, 110, 116, 45, 108, 101, 110, 103, 116, 104, 58, 32]⟩ : ByteArray).size = 16 := rfl
theorem num_size (u : Nat) (h : u ≤ 1048576) : (strOfNums (numD u)).size ≤ 7 := by
 rw [size_len, bytesOf_strOfNums _ (numD_range u)]
 exact numD_len 6 u (by omega)
theorem impl_lengthText_eq (b : ByteArray) (hb : b.size ≤ 1048576) : impl_lengthText.f b = some (lenText b) := by
 have hn := num_size b.size hb
 have e := impl_NumText_eq (b.size : Int) (by omega)
 rw [Int.toNat_natCast] at e
 unfold impl_lengthText.f
 rw [e, Option.bind_some, if_pos (by omega), if_pos (by simp only [ByteArray.size_append, sz16]; omega)]
 rfl
theorem lenText_size (b : ByteArray) (hb : b.size ≤ 1048576) : (lenText b).size ≤ 25 := by
 have hn := num_size b.size hb
 unfold lenText
 simp only [ByteArray.size_append, sz16, sz2c]; omega

def respText (c : Int) (l : List S88) (b : ByteArray) : ByteArray := (((((((⟨#[72, 84, 84, 80, 47, 49, 46, 49, 32]⟩ : ByteArray) ++ strOfNums (numD c.toNat)) ++ (⟨#[13, 10]⟩ : ByteArray)) ++ headText l) ++ lenText b) ++ (⟨#[13, 10]⟩ : ByteArray)) ++ b)
def respV (c : Int) (l : List S88) (b : ByteArray) : List Int := if respOk c l b = true then bytesOf (respText c l b) else []
theorem sz9b : (⟨#[72, 84, 84, 80, 47, 49, 46, 49, 32]⟩ : ByteArray).size = 9 := rfl
theorem respOk_c {c : Int} {l : List S88} {b : ByteArray} (h : respOk c l b = true) : 100 ≤ c ∧ c ≤ 599 := by
 unfold respOk at h
 simp only [Bool.and_eq_true, decide_eq_true_eq] at h
 exact h.1
theorem impl_PutResp_ev (c : Int) (l : List S88) (b : ByteArray) (hl : l.length ≤ 1048576) (hs : ∀ x ∈ l, x.f0.size ≤ 1048576 ∧ x.f1.size ≤ 1048576) (hb : b.size ≤ 1048576) : Ev (fun k => impl_PutResp.f k c l b) (respV c l b) := by
 have hh := headText_size l hl hs
 have hlt := lenText_size b hb
 unfold impl_PutResp.f respV
 refine Ev.bind (impl_RespOk_ev c l b (by omega) hs) (ev_iteB (fun q => ?_) (fun q => ?_))
 ·rw [if_pos q]
  obtain ⟨c1, c2⟩ := respOk_c q
  have hn := num_size c.toNat (by omega)
  simp only [impl_NumText_eq c (by omega), impl_lengthText_eq b hb, Option.bind_some]
  refine ev_ite (fun _ => ?_) (fun q => absurd (by omega) q)
  refine ev_ite (fun _ => ?_) (fun q => absurd (by simp only [ByteArray.size_append, sz9b]; omega) q)
  refine Ev.bind (impl_headText_ev l hl hs) ?_
  refine ev_ite (fun _ => ?_) (fun q => absurd (by simp only [ByteArray.size_append, sz9b, sz2c]; omega) q)
  refine ev_ite (fun _ => ?_) (fun q => absurd (by simp only [ByteArray.size_append, sz9b, sz2c]; omega) q)
  refine ev_ite (fun _ => ?_) (fun q => absurd (by simp only [ByteArray.size_append, sz9b, sz2c]; omega) q)
  refine ev_ite (fun _ => ?_) (fun q => absurd (by simp only [ByteArray.size_append, sz9b, sz2c]; omega) q)
  refine ev_ite (fun _ => ?_) (fun q => absurd (by simp only [ByteArray.size_append, sz9b, sz2c]; omega) q)
  exact Ev.now _
 ·rw [if_neg (by rw [q]; simp)]; exact Ev.now _
theorem lenCat (x b : ByteArray) : ((x ++ (⟨#[99, 111, 110, 116, 101, 110, 116, 45, 108, 101, 110, 103, 116, 104, 58, 32]⟩ : ByteArray)) ++ strOfNums (numD b.size)) ++ (⟨#[13, 10]⟩ : ByteArray) = x ++ lenText b := by
 unfold lenText; simp only [ByteArray.append_assoc]
theorem spec_PutResp_ev (c : Int) (l : List S88) (b : ByteArray) (hl : l.length ≤ 1048576) (hs : ∀ x ∈ l, x.f0.size ≤ 1048576 ∧ x.f1.size ≤ 1048576) (hb : b.size ≤ 1048576) : Ev (fun k => spec_PutResp.f k c l b) (respV c l b) := by
 have hh := headText_size l hl hs
 have hlt := lenText_size b hb
 have hnb := num_size b.size hb
 unfold spec_PutResp.f respV
 refine Ev.bind (spec_RespOk_ev c l b (by omega) hs) (ev_iteB (fun q => ?_) (fun q => ?_))
 ·rw [if_pos q]
  obtain ⟨c1, c2⟩ := respOk_c q
  have hn := num_size c.toNat (by omega)
  have eb := spec_NumText_ev (b.size : Int) (by omega)
  rw [Int.toNat_natCast] at eb
  refine Ev.bind (spec_NumText_ev c (by omega)) ?_
  refine ev_ite (fun _ => ?_) (fun q => absurd (by omega) q)
  refine ev_ite (fun _ => ?_) (fun q => absurd (by simp only [ByteArray.size_append, sz9b]; omega) q)
  refine Ev.bind (spec_l3HeadsText_ev l hl hs) ?_
  refine ev_ite (fun _ => ?_) (fun q => absurd (by simp only [ByteArray.size_append, sz9b, sz2c]; omega) q)
  refine ev_ite (fun _ => ?_) (fun q => absurd (by simp only [ByteArray.size_append, sz9b, sz2c]; omega) q)
  refine Ev.bind eb ?_
  refine ev_ite (fun _ => ?_) (fun q => absurd (by simp only [ByteArray.size_append, sz9b, sz2c, sz16]; omega) q)
  refine ev_ite (fun _ => ?_) (fun q => absurd (by simp only [ByteArray.size_append, sz9b, sz2c, sz16]; omega) q)
  refine ev_ite (fun _ => ?_) (fun q => absurd (by simp only [ByteArray.size_append, sz9b, sz2c, sz16]; omega) q)
  refine ev_ite (fun _ => ?_) (fun q => absurd (by simp only [ByteArray.size_append, sz9b, sz2c, sz16]; omega) q)
  refine ev_ite (fun _ => ?_) (fun q => absurd (by simp only [ByteArray.size_append, sz9b, sz2c, sz16]; omega) q)
  simp only [lenCat]
  exact Ev.now _
 ·rw [if_neg (by rw [q]; simp)]; exact Ev.now _
def respHs (ls : List ByteArray) : List S88 := ls.map fun s => ⟨(cutP 58 32 s).1, (cutP 58 32 s).2.1⟩
def badR : Int × List S88 × ByteArray × Int × Bool := (0, [], ⟨#[]⟩, 0, false)
def implC (l : List Int) : Int := (pnum (tpre ((linesC (cut4 l).1).getD 0 ByteArray.empty) P9) 599).1
def implH (l : List Int) : List S88 := respHs (((linesC (cut4 l).1).take ((linesC (cut4 l).1).length - 1)).drop 1)
def implQ (l : List Int) : Int × Bool := pnum (tpre ((linesC (cut4 l).1).getD ((linesC (cut4 l).1).length - 1) ByteArray.empty) CLp) 400
def implB (l : List Int) : ByteArray := strOfNums ((cut4 l).2.1.take (implQ l).1.toNat)
def implT (l : List Int) : List Int := respV (implC l) (implH l) (implB l)
noncomputable def implR (l : List Int) : Int × List S88 × ByteArray × Int × Bool :=
 if (cut4 l).2.2 = true ∧ 2 ≤ (linesC (cut4 l).1).length ∧ (linesC (cut4 l).1).length ≤ 10 ∧ (implQ l).2 = true ∧ (implQ l).1 ≤ ((cut4 l).2.1.length : Int) ∧ implT l ≠ [] ∧ decide (implT l <+: l) = true
 then (implC l, implH l, implB l, ((implT l).length : Int), true) else badR
theorem rdOf_at (l : List ByteArray) (i : Nat) : rdOf ByteArray.empty l (i : Int) = l.getD i ByteArray.empty := by
 unfold rdOf; rw [Int.toNat_natCast]
theorem respV_range (c : Int) (hs : List S88) (b : ByteArray) : ∀ x ∈ respV c hs b, 0 ≤ x ∧ x < 256 := by
 unfold respV
 split
 ·exact bytesOf_range _
 ·simp
theorem impl_GetResp_l0 (l r : List Int) (c : Int) (n : Int) (ls xs : List ByteArray) (b0 : ByteArray) (hx : ∀ x ∈ xs, x.size ≤ 1048576) (hn : xs.length ≤ 1048576) (X : Int × List S88 × ByteArray × Int × Bool)
  (hX : Ev (fun k => if 0 ≤ n then (if n < (ls.length : Int) then ((strings_TrimPrefix.f (rdOf ByteArray.empty ls n) CLp).bind fun t237 => ((impl_ParseNum.f t237 400).bind fun bt238 => (if bt238.2 = true then (impl_GetResp.j2 k l (strOfNums r) bt238.1 (decide (bt238.1 > ((strOfNums r).size : Int))) c (respHs xs) b0) else (impl_GetResp.j2 k l (strOfNums r) bt238.1 true c (respHs xs) b0)))) else (none)) else (none)) X) :
  ∀ (m i : Nat), xs.length - i = m → i ≤ xs.length → Ev (fun k => impl_GetResp.l0 k l (strOfNums r) ls n xs (xs.length : Int) (i : Int) c (respHs (xs.take i)) b0) X
 | 0, i, hm, hi => by
  have he : i = xs.length := by omega
  subst he
  apply ev_succ
  simp only [impl_GetResp.l0, if_neg (show ¬ ((xs.length : Nat) : Int) < (xs.length : Int) by omega), List.take_length]
  exact hX
 | m + 1, i, hm, hi => by
  have hlt : i < xs.length := by omega
  have ih := impl_GetResp_l0 l r c n ls xs b0 hx hn X hX m (i + 1) (by omega) (by omega)
  have hw1 : wrap64 ((i : Int) + 1) = ((i + 1 : Nat) : Int) := by rw [wrap_id (by omega) (by omega)]; rfl
  have hgt : xs[i]? = some xs[i] := List.getElem?_eq_getElem hlt
  have hrd : rdOf ByteArray.empty xs (i : Int) = xs[i] := by rw [rdOf_at, List.getD_eq_getElem?_getD, hgt]; rfl
  have hsz := hx xs[i] (List.getElem_mem hlt)
  have hl2 : (respHs (xs.take i)).length = i := by unfold respHs; rw [List.length_map, List.length_take]; omega
  have hlen : (respHs (xs.take i)).length < 4398046511104 := by omega
  have hap : respHs (xs.take i) ++ [⟨(cutP 58 32 xs[i]).1, (cutP 58 32 xs[i]).2.1⟩] = respHs (xs.take (i + 1)) := by
   unfold respHs; rw [List.take_add_one, hgt, Option.toList_some, List.map_append]; rfl
  apply ev_succ
  have hc := cut_pair 58 32 xs[i] (by omega)
  simp only [impl_GetResp.l0, if_pos (show (i : Int) < (xs.length : Int) by omega), if_pos (show (0 : Int) ≤ (i : Int) by omega), hrd, hc, Option.bind_some, if_pos hlen, hw1]
  have e58 : (((58 : UInt8).toNat : Nat) : Int) = 58 := rfl
  have e32 : (((32 : UInt8).toNat : Nat) : Int) = 32 := rfl
  simp only [e58, e32, hap]
  exact ih
theorem impl_j0_bad (l : List Int) (x6 : ByteArray) (x8 : List ByteArray) (x9 c : Int) (b : ByteArray) : Ev (fun k => impl_GetResp.j0 k l x6 x8 x9 true c b) badR := by
 apply ev_succ; simp only [impl_GetResp.j0, if_true]; exact Ev.now _
theorem impl_j2_bad (l : List Int) (x6 : ByteArray) (x16 c : Int) (hs : List S88) (b : ByteArray) : Ev (fun k => impl_GetResp.j2 k l x6 x16 true c hs b) badR := by
 apply ev_succ; simp only [impl_GetResp.j2, if_true]; exact Ev.now _
theorem impl_GetResp_ev (l : List Int) (hl : l.length ≤ 1048576) (hr : ∀ x ∈ l, 0 ≤ x ∧ x < 256) : Ev (fun k => impl_GetResp.f k l) (implR l) := by
 have hc4 := cut4_len l
 have hr4 := cut4_range hr
 have hln := linesC_len (cut4 l).1
 have hsz := linesC_size hr4.1
 unfold impl_GetResp.f
 simp only [cut_four l hl hr, Option.bind_some, split_lines (cut4 l).1 (by omega) hr4.1]
 obtain ⟨ls, hls⟩ : ∃ ls, ls = linesC (cut4 l).1 := ⟨_, rfl⟩
 rw [← hls] at hln hsz
 simp only [← hls]
 have hw : wrap64 ((ls.length : Int) - 1) = ((ls.length - 1 : Nat) : Int) := by rw [wrap_id (by omega) (by omega)]; omega
 have hg : ∀ i : Nat, (ls.getD i ByteArray.empty).size ≤ 1048576 := by
  intro i
  rw [List.getD_eq_getElem?_getD]
  rcases Nat.lt_or_ge i ls.length with h | h
  ·rw [List.getElem?_eq_getElem h]
   have := hsz ls[i] (List.getElem_mem h)
   show ls[i].size ≤ _
   omega
  ·rw [List.getElem?_eq_none h]; decide
 have hT0 : ∀ i : Nat, strings_TrimPrefix.f (ls.getD i ByteArray.empty) (⟨#[72, 84, 84, 80, 47, 49, 46, 49, 32]⟩ : ByteArray) = some (tpre (ls.getD i ByteArray.empty) P9) := fun _ => rfl
 have hT1 : ∀ i : Nat, strings_TrimPrefix.f (ls.getD i ByteArray.empty) CLp = some (tpre (ls.getD i ByteArray.empty) CLp) := fun _ => rfl
 have hts : ∀ (i : Nat) (p : ByteArray), (tpre (ls.getD i ByteArray.empty) p).size ≤ 1048576 := fun i p => Nat.le_trans (tpre_size _ _) (hg i)
 have h00 : rdOf ByteArray.empty ls 0 = ls.getD 0 ByteArray.empty := rdOf_at ls 0
 simp only [if_pos (show (0 : Int) < (ls.length : Int) by omega), hw, h00, hT0, Option.bind_some, impl_ParseNum_eq _ _ (Nat.le_trans (hts 0 P9) (by omega))]
 have eC : implC l = (pnum (tpre (ls.getD 0 ByteArray.empty) P9) 599).1 := by unfold implC; rw [← hls]
 have eQ : implQ l = pnum (tpre (ls.getD (ls.length - 1) ByteArray.empty) CLp) 400 := by unfold implQ; rw [← hls]
 have eH : implH l = respHs ((ls.take (ls.length - 1)).drop 1) := by unfold implH; rw [← hls]
 have eR : implR l = if (cut4 l).2.2 = true ∧ 2 ≤ ls.length ∧ ls.length ≤ 10 ∧ (implQ l).2 = true ∧ (implQ l).1 ≤ ((cut4 l).2.1.length : Int) ∧ implT l ≠ [] ∧ decide (implT l <+: l) = true
   then (implC l, implH l, implB l, ((implT l).length : Int), true) else badR := by unfold implR; rw [← hls]
 rw [← eC]
 have main : ∀ (h1 : 2 ≤ ls.length) (h2 : ls.length ≤ 10), (cut4 l).2.2 = true → Ev (fun k => impl_GetResp.j0 k l (strOfNums (cut4 l).2.1) ls ((ls.length - 1 : Nat) : Int) false (implC l) (⟨#[]⟩ : ByteArray)) (implR l) := by
  intro h1 h2 h3
  apply ev_succ
  simp only [impl_GetResp.j0, Bool.false_eq_true, if_false, if_pos (show (1 : Int) ≤ ((ls.length - 1 : Nat) : Int) by omega), if_pos (show ((ls.length - 1 : Nat) : Int) ≤ (ls.length : Int) by omega), Int.toNat_natCast, Option.bind_some]
  refine impl_GetResp_l0 l (cut4 l).2.1 (implC l) _ ls ((ls.take (ls.length - 1)).drop 1) _ ?_ (by simp only [List.length_drop, List.length_take]; omega) _ ?_ _ 0 rfl (Nat.zero_le _)
  ·intro x hx
   have := hsz x (List.mem_of_mem_take (List.mem_of_mem_drop hx))
   omega
  ·rw [← eH]
   simp only [if_pos (show (0 : Int) ≤ ((ls.length - 1 : Nat) : Int) by omega), if_pos (show ((ls.length - 1 : Nat) : Int) < (ls.length : Int) by omega), rdOf_at, hT1, Option.bind_some, impl_ParseNum_eq _ _ (Nat.le_trans (hts (ls.length - 1) CLp) (by omega)), ← eQ, strOfNums_size]
   refine ev_iteB (fun q => ?_) (fun q => ?_)
   ·by_cases q1 : (implQ l).1 > ((cut4 l).2.1.length : Int)
    ·rw [decide_eq_true q1, eR, if_neg (fun h => by omega)]
     exact impl_j2_bad _ _ _ _ _ _
    ·rw [decide_eq_false q1]
     have hb := pnum_bound _ _ (eQ ▸ q)
     rw [← eQ] at hb
     have hB : (strOfNums (cut4 l).2.1).extract 0 (implQ l).1.toNat = implB l := by
      unfold implB
      apply bytesOf_inj
      rw [bytesOf_extract, bytesOf_strOfNums _ hr4.2, List.drop_zero, bytesOf_strOfNums _ (fun x hx => hr4.2 x (List.mem_of_mem_take hx))]
     have hBs : (implB l).size ≤ 1048576 := by unfold implB; rw [strOfNums_size, List.length_take]; omega
     have hHl : (implH l).length ≤ 1048576 := by rw [eH]; unfold respHs; simp only [List.length_map, List.length_drop, List.length_take]; omega
     have hHs : ∀ x ∈ implH l, x.f0.size ≤ 1048576 ∧ x.f1.size ≤ 1048576 := by
      intro x hx
      rw [eH] at hx
      unfold respHs at hx
      obtain ⟨s, hs, rfl⟩ := List.mem_map.1 hx
      have h5 := hsz s (List.mem_of_mem_take (List.mem_of_mem_drop hs))
      have h6 := cutP_size 58 32 s
      exact ⟨by show (cutP 58 32 s).1.size ≤ _; omega, by show (cutP 58 32 s).2.1.size ≤ _; omega⟩
     apply ev_succ
     simp only [impl_GetResp.j2, Bool.false_eq_true, if_false, if_pos hb.1, strOfNums_size, if_pos (show (implQ l).1 ≤ ((cut4 l).2.1.length : Int) by omega), hB]
     refine Ev.bind (impl_PutResp_ev (implC l) (implH l) (implB l) hHl hHs hBs) ?_
     refine ev_ite (fun q2 => ?_) (fun q2 => ?_)
     ·rw [eR, if_neg (fun h => h.2.2.2.2.2.1 (List.eq_nil_of_length_eq_zero (by unfold implT; omega)))]
      exact Ev.now _
     ·rw [hasPrefix_pre l _ hr (respV_range _ _ _)]
      simp only [Option.bind_some]
      refine ev_iteB (fun q3 => ?_) (fun q3 => ?_)
      ·rw [eR, if_pos ⟨h3, h1, h2, q, by omega, fun h => q2 (by unfold implT at h; rw [h]; rfl), q3⟩]
       exact Ev.now _
      ·rw [eR, if_neg (fun h => by rw [show decide (implT l <+: l) = false from q3] at h; exact absurd h.2.2.2.2.2.2 (by simp))]
       exact Ev.now _
   ·rw [eR, if_neg (fun h => by rw [q] at h; exact absurd h.2.2.2.1 (by simp))]
    exact impl_j2_bad _ _ _ _ _ _
 refine ev_iteB (fun q => ?_) (fun q => ?_)
 ·refine ev_ite (fun q1 => ?_) (fun q1 => ?_)
  ·rw [eR, if_neg (fun h => by omega)]; exact impl_j0_bad _ _ _ _ _ _
  ·by_cases q2 : ((ls.length - 1 : Nat) : Int) > 9
   ·rw [decide_eq_true q2, eR, if_neg (fun h => by omega)]; exact impl_j0_bad _ _ _ _ _ _
   ·rw [decide_eq_false q2]; exact main (by omega) (by omega) q
 ·rw [eR, if_neg (fun h => by rw [q] at h; exact absurd h.1 (by simp))]; exact impl_j0_bad _ _ _ _ _ _

theorem spec_l5End_ev (l : List Int) (hl : l.length ≤ 9223372036854775000) (hr : ∀ x ∈ l, 0 ≤ x ∧ x < 256) : Ev (fun k => spec_l5End.f k l) (fnd4 0 l) := by
 have key : ∀ (n i : Nat), l.length - i ≤ n → i ≤ l.length → Ev (fun k => spec_l5End.l0 k l (i : Int)) (fnd4 i (l.drop i)) := by
  intro n
  induction n with
  | zero =>
   intro i hi hil
   rw [fnd4_short _ _ (by rw [List.length_drop]; omega)]
   apply ev_succ
   simp only [spec_l5End.l0]
   refine ev_ite (fun q => absurd q (by rw [wrap_id (by omega) (by omega)]; omega)) (fun _ => Ev.now _)
  | succ n ih =>
   intro i hi hil
   rcases Nat.lt_or_ge (i + 3) l.length with hlt | hge
   ·have hw3 : wrap64 ((i : Int) + 3) = ((i + 3 : Nat) : Int) := by rw [wrap_id (by omega) (by omega)]; rfl
    have hw4 : wrap64 ((i : Int) + 4) = ((i + 4 : Nat) : Int) := by rw [wrap_id (by omega) (by omega)]; rfl
    have hw1 : wrap64 ((i : Int) + 1) = ((i + 1 : Nat) : Int) := by rw [wrap_id (by omega) (by omega)]; rfl
    have ht : l.drop i = l[i] :: l.drop (i + 1) := List.drop_eq_getElem_cons (by omega)
    have h4 : (l.drop i).take 4 = (l.take (i + 4)).drop i := by rw [List.take_drop]
    apply ev_succ
    simp only [spec_l5End.l0, hw3, hw4, hw1, if_pos (show ((i + 3 : Nat) : Int) < (l.length : Int) by omega), if_pos (show (0 : Int) ≤ (i : Int) by omega), if_pos (show (i : Int) ≤ ((i + 4 : Nat) : Int) by omega), if_pos (show ((i + 4 : Nat) : Int) ≤ l.length by omega), Int.toNat_natCast]
    have hc : ((strOfNums ((l.take (i + 4)).drop i)).toList = ([13, 10, 13, 10] : List UInt8)) ↔ (l.take (i + 4)).drop i = [13, 10, 13, 10] := by
     rw [Lib.toList_data, strOfNums_data]
     have hb := bytesOf_strOfNums ((l.take (i + 4)).drop i) (fun x hx => hr x (List.mem_of_mem_take (List.mem_of_mem_drop hx)))
     unfold bytesOf at hb
     rw [strOfNums_data] at hb
     constructor
     ·intro h; rw [h] at hb; rw [← hb]; rfl
     ·intro h; rw [h]; rfl
    rw [ht, fnd4, ← ht, h4]
    refine ev_ite (fun q2 => ?_) (fun q2 => ?_)
    ·rw [if_pos (hc.mp q2)]; exact Ev.now _
    ·rw [if_neg (fun h => q2 (hc.mpr h))]; exact ih (i + 1) (by omega) (by omega)
   ·rw [fnd4_short _ _ (by rw [List.length_drop]; omega)]
    apply ev_succ
    simp only [spec_l5End.l0]
    refine ev_ite (fun q => absurd q (by rw [wrap_id (by omega) (by omega)]; omega)) (fun _ => Ev.now _)
 exact key l.length 0 (by omega) (Nat.zero_le _)
theorem bt_at' {s : ByteArray} {i : Nat} {c : Int} {r : List Int} (h : (bytesOf s).drop i = c :: r) : bt s (i : Int) = c := (bt_drop h).1
theorem spec_l3Lines_ev (s : ByteArray) (hs : s.size ≤ 1048576) : Ev (fun k => spec_l3Lines.f k s) (linesC (bytesOf s)) := by
 have key : ∀ (n i st : Nat) (acc : List ByteArray), s.size - i ≤ n → st ≤ i → i ≤ s.size → acc.length ≤ i → Ev (fun k => spec_l3Lines.l0 k s acc (st : Int) (i : Int)) (acc ++ (splC (((bytesOf s).take i).drop st) ((bytesOf s).drop i)).map strOfNums) := by
  intro n
  induction n using Nat.strongRecOn with
  | _ n ih =>
   intro i st acc hn hst hi hac
   have hw1 : wrap64 ((i : Int) + 1) = ((i + 1 : Nat) : Int) := by rw [wrap_id (by omega) (by omega)]; rfl
   have hw2 : wrap64 ((i : Int) + 2) = ((i + 2 : Nat) : Int) := by rw [wrap_id (by omega) (by omega)]; rfl
   have hw11 : wrap64 (((i + 1 : Nat) : Int) + 1) = ((i + 2 : Nat) : Int) := by rw [wrap_id (by omega) (by omega)]; rfl
   have a1 : (i : Int) ≤ (s.size : Int) := by omega
   have a3 : (0 : Int) ≤ (st : Int) := by omega
   have a4 : (st : Int) ≤ (i : Int) := by omega
   have a5 : acc.length < 8796093022208 := by omega
   have a7 : (0 : Int) ≤ (i : Int) := by omega
   have a8 : (0 : Int) ≤ ((i + 1 : Nat) : Int) := by omega
   have a9 : (st : Int) ≤ (s.size : Int) := by omega
   have e : s.extract st i = strOfNums (((bytesOf s).take i).drop st) := by rw [← bytesOf_extract, strOfNums_bytesOf]
   apply ev_succ
   simp only [spec_l3Lines.l0, if_pos a1, hw1, hw2, hw11, Int.toNat_natCast]
   by_cases q : i = s.size
   ·subst q
    have b1 : ¬ ((s.size + 1 : Nat) : Int) ≤ (s.size : Int) := by omega
    simp only [if_true, if_pos a3, if_pos a4, if_pos a5]
    apply ev_succ
    simp only [spec_l3Lines.l0, if_neg b1]
    have hnil : (bytesOf s).drop s.size = [] := List.drop_eq_nil_of_le (by rw [bytesOf_length]; exact Nat.le_refl _)
    rw [hnil, splC, e]
    exact Ev.now _
   ·have hlt : i < s.size := by omega
    have hlb : i < (bytesOf s).length := by rw [bytesOf_length]; exact hlt
    have hd : (bytesOf s).drop i = (bytesOf s)[i] :: (bytesOf s).drop (i + 1) := List.drop_eq_getElem_cons hlb
    have hb := bt_at' hd
    have hsn := take_snocC hd hst
    simp only [if_neg (show ¬ (i : Int) = (s.size : Int) by omega)]
    have next : ∀ c, bt s (i : Int) = c → (¬ (c = 13 ∧ ∃ r, (bytesOf s).drop (i + 1) = 10 :: r)) → Ev (fun k => spec_l3Lines.l0 k s acc (st : Int) ((i + 1 : Nat) : Int)) (acc ++ (splC (((bytesOf s).take i).drop st) ((bytesOf s).drop i)).map strOfNums) := by
     intro c hc hno
     rw [hb] at hc
     have := ih (n - 1) (by omega) (i + 1) st acc (by omega) (by omega) (by omega) (by omega)
     rw [hsn] at this
     rw [hd]
     have e2 : splC (((bytesOf s).take i).drop st) ((bytesOf s)[i] :: (bytesOf s).drop (i + 1)) = splC (((bytesOf s).take i).drop st ++ [(bytesOf s)[i]]) ((bytesOf s).drop (i + 1)) := by
      cases hr : (bytesOf s).drop (i + 1) with
      | nil => rw [splC, splC]
      | cons d t => rw [splC, if_neg (fun hq => hno ⟨hc ▸ hq.1, t, by rw [hr, hq.2]⟩)]
     rw [e2]; exact this
    refine ev_ite (fun q1 => ?_) (fun q1 => ?_)
    ·simp only [if_pos a7, if_pos (show (i : Int) < (s.size : Int) by omega)]
     refine ev_ite (fun q2 => ?_) (fun q2 => ?_)
     ·have hlb2 : i + 1 < (bytesOf s).length := by rw [bytesOf_length]; omega
      have hd2 : (bytesOf s).drop (i + 1) = (bytesOf s)[i + 1] :: (bytesOf s).drop (i + 1 + 1) := List.drop_eq_getElem_cons hlb2
      have hb2 := bt_at' hd2
      simp only [if_pos a8]
      refine ev_ite (fun q3 => ?_) (fun q3 => ?_)
      ·simp only [if_pos a3, if_pos a4, if_pos a5]
       have := ih (n - 2) (by omega) (i + 2) (i + 2) (acc ++ [s.extract st i]) (by omega) (Nat.le_refl _) (by omega) (by simp; omega)
       have e3 : ((bytesOf s).take (i + 2)).drop (i + 2) = [] := List.drop_eq_nil_of_le (by rw [List.length_take]; exact Nat.min_le_left _ _)
       rw [e3, e] at this
       rw [hd, hd2]
       rw [hb] at q2
       rw [hb2] at q3
       rw [splC, if_pos ⟨q2, q3⟩, e]
       simpa using this
      ·refine next _ rfl (fun hq => q3 ?_)
       obtain ⟨_, r, hr⟩ := hq
       rw [hb2, List.cons.inj (hd2.symm.trans hr) |>.1]
     ·exact next _ rfl (fun hq => q2 hq.1)
    ·refine next _ rfl (fun hq => ?_)
     obtain ⟨_, r, hr⟩ := hq
     have := congrArg List.length hr
     rw [List.length_drop, bytesOf_length, List.length_cons] at this
     omega
 have := key s.size 0 0 [] (by omega) (Nat.le_refl _) (Nat.zero_le _) (Nat.le_refl _)
 unfold spec_l3Lines.f linesC
 simpa using this
/-- a line's head, as the reference reads it -/
def headS (s : ByteArray) : ByteArray × ByteArray × Bool := if (cutP 58 32 s).2.2 = true then cutP 58 32 s else (⟨#[]⟩, ⟨#[]⟩, false)
theorem spec_l5Head_ev (s : ByteArray) (hs : s.size ≤ 1048576) : Ev (fun k => spec_l5Head.f k s) (headS s) := by
 have key : ∀ (n i : Nat), s.size - i ≤ n → i ≤ s.size → Ev (fun k => spec_l5Head.l0 k s (i : Int)) (match fndP 58 32 ((bytesOf s).drop i) with
   | none => (⟨#[]⟩, ⟨#[]⟩, false)
   | some j => (strOfNums ((bytesOf s).take (i + j)), strOfNums ((bytesOf s).drop (i + j + 2)), true)) := by
  intro n
  induction n with
  | zero =>
   intro i hn hi
   have he : i = s.size := by omega
   rw [List.drop_eq_nil_of_le (by rw [bytesOf_length]; omega), fndP]
   have hw1 : wrap64 ((i : Int) + 1) = ((i + 1 : Nat) : Int) := by rw [wrap_id (by omega) (by omega)]; rfl
   apply ev_succ
   simp only [spec_l5Head.l0, hw1, if_neg (show ¬ ((i + 1 : Nat) : Int) < (s.size : Int) by omega), if_pos (show ((i + 1 : Nat) : Int) ≥ (s.size : Int) by omega)]
   exact Ev.now _
  | succ n ih =>
   intro i hn hi
   have hw1 : wrap64 ((i : Int) + 1) = ((i + 1 : Nat) : Int) := by rw [wrap_id (by omega) (by omega)]; rfl
   have hw2 : wrap64 ((i : Int) + 2) = ((i + 2 : Nat) : Int) := by rw [wrap_id (by omega) (by omega)]; rfl
   rcases Nat.lt_or_ge (i + 1) s.size with hlt | hge
   ·have hlb : i < (bytesOf s).length := by rw [bytesOf_length]; omega
    have hlb2 : i + 1 < (bytesOf s).length := by rw [bytesOf_length]; omega
    have hd : (bytesOf s).drop i = (bytesOf s)[i] :: (bytesOf s).drop (i + 1) := List.drop_eq_getElem_cons hlb
    have hd2 : (bytesOf s).drop (i + 1) = (bytesOf s)[i + 1] :: (bytesOf s).drop (i + 1 + 1) := List.drop_eq_getElem_cons hlb2
    have hb := bt_at' hd
    have hb2 := bt_at' hd2
    have next : ¬ ((bytesOf s)[i] = 58 ∧ (bytesOf s)[i + 1] = 32) → Ev (fun k => spec_l5Head.l0 k s ((i + 1 : Nat) : Int)) (match fndP 58 32 ((bytesOf s).drop i) with
      | none => (⟨#[]⟩, ⟨#[]⟩, false)
      | some j => (strOfNums ((bytesOf s).take (i + j)), strOfNums ((bytesOf s).drop (i + j + 2)), true)) := by
     intro hno
     have := ih (i + 1) (by omega) (by omega)
     rw [hd, hd2, fndP, if_neg hno, ← hd2]
     cases hj : fndP 58 32 ((bytesOf s).drop (i + 1)) with
     | none => rw [hj] at this; exact this
     | some j =>
      rw [hj] at this
      simp only [Option.map_some]
      rw [show i + (j + 1) = i + 1 + j by omega]
      exact this
    apply ev_succ
    simp only [spec_l5Head.l0, hw1, hw2, if_pos (show ((i + 1 : Nat) : Int) < (s.size : Int) by omega), if_pos (show (0 : Int) ≤ (i : Int) by omega), if_pos (show (i : Int) < (s.size : Int) by omega), if_pos (show (0 : Int) ≤ ((i + 1 : Nat) : Int) by omega), if_neg (show ¬ ((i + 1 : Nat) : Int) ≥ (s.size : Int) by omega), if_pos (show (i : Int) ≤ (s.size : Int) by omega), if_pos (show (0 : Int) ≤ ((i + 2 : Nat) : Int) by omega), if_pos (show ((i + 2 : Nat) : Int) ≤ (s.size : Int) by omega), hb, hb2, Int.toNat_natCast]
    refine ev_ite (fun q => ?_) (fun q => next (fun h => q h.1))
    refine ev_ite (fun q1 => ?_) (fun q1 => next (fun h => q1 h.2))
    rw [hd, hd2, fndP, if_pos ⟨q, q1⟩]
    have e1 : s.extract 0 i = strOfNums ((bytesOf s).take (i + 0)) := by rw [← List.drop_zero (l := (bytesOf s).take (i + 0)), ← bytesOf_extract, strOfNums_bytesOf]; rfl
    have e2 : s.extract (i + 2) s.size = strOfNums ((bytesOf s).drop (i + 0 + 2)) := by
     have h9 := bytesOf_extract s (i + 2) s.size
     rw [List.take_of_length_le (by rw [bytesOf_length]; exact Nat.le_refl _)] at h9
     rw [show i + 0 + 2 = i + 2 from rfl, ← h9, strOfNums_bytesOf]
    rw [e1, e2]
    exact Ev.now _
   ·have hnone : fndP 58 32 ((bytesOf s).drop i) = none := by
     have hl : ((bytesOf s).drop i).length ≤ 1 := by rw [List.length_drop, bytesOf_length]; omega
     match hx : (bytesOf s).drop i, hl with
     | [], _ => rfl
     | [_], _ => rfl
     | _ :: _ :: _, h => simp at h
    rw [hnone]
    apply ev_succ
    simp only [spec_l5Head.l0, hw1, if_neg (show ¬ ((i + 1 : Nat) : Int) < (s.size : Int) by omega), if_pos (show ((i + 1 : Nat) : Int) ≥ (s.size : Int) by omega)]
    exact Ev.now _
 have := key s.size 0 (by omega) (Nat.zero_le _)
 unfold spec_l5Head.f headS cutP
 rw [List.drop_zero] at this
 cases h : fndP 58 32 (bytesOf s) with
 | none => rw [h] at this; exact this
 | some j => rw [h] at this; simpa using this

/-- the lines behind the first, as the reference takes them: heads, and the length -/
def spL : List ByteArray → Int → List S88 → Option (List S88 × Int)
 | [], sz, hs => some (hs, sz)
 | x :: r, sz, hs => if (headS x).2.2 = true then (if r = [] ∧ bytesOf (headS x).1 = [99, 111, 110, 116, 101, 110, 116, 45, 108, 101, 110, 103, 116, 104] then (if (pnum (headS x).2.1 400).2 = true then spL r (pnum (headS x).2.1 400).1 hs else none) else spL r sz (hs ++ [⟨(headS x).1, (headS x).2.1⟩])) else none
theorem headS_size (s : ByteArray) : (headS s).1.size ≤ s.size ∧ (headS s).2.1.size ≤ s.size := by
 unfold headS
 split
 ·exact cutP_size 58 32 s
 ·exact ⟨Nat.zero_le _, Nat.zero_le _⟩
theorem spL_facts : ∀ (ls : List ByteArray) (sz : Int) (hs : List S88) (m : Nat) (r : List S88 × Int), (∀ x ∈ ls, x.size ≤ m) → (∀ x ∈ hs, x.f0.size ≤ m ∧ x.f1.size ≤ m) → -1 ≤ sz → sz ≤ 400 → spL ls sz hs = some r → r.1.length ≤ hs.length + ls.length ∧ (∀ x ∈ r.1, x.f0.size ≤ m ∧ x.f1.size ≤ m) ∧ -1 ≤ r.2 ∧ r.2 ≤ 400
 | [], sz, hs, m, r, hl, hh, h0, h1, h => by
  rw [spL, Option.some.injEq] at h
  subst h
  exact ⟨by simp, hh, h0, h1⟩
 | x :: ls, sz, hs, m, r, hl, hh, h0, h1, h => by
  have hx := headS_size x
  have hxm := hl x (by simp)
  rw [spL] at h
  split at h
  ·split at h
   ·split at h
    ·rename_i q
     have hb := pnum_bound _ _ q
     have := spL_facts ls _ hs m r (fun y hy => hl y (by simp [hy])) hh (by omega) (by omega) h
     refine ⟨?_, this.2⟩
     have := this.1
     simp only [List.length_cons]; omega
    ·cases h
   ·have := spL_facts ls sz _ m r (fun y hy => hl y (by simp [hy])) (fun y hy => by
     rcases List.mem_append.1 hy with h | h
     ·exact hh y h
     ·rw [List.mem_singleton] at h; subst h; exact ⟨by show (headS x).1.size ≤ _; omega, by show (headS x).2.1.size ≤ _; omega⟩) h0 h1 h
    refine ⟨?_, this.2⟩
    have := this.1
    simp only [List.length_append, List.length_cons, List.length_nil] at this ⊢; omega
  ·cases h
theorem lit_CL (s : ByteArray) : s.toList = ([99, 111, 110, 116, 101, 110, 116, 45, 108, 101, 110, 103, 116, 104] : List UInt8) ↔ bytesOf s = [99, 111, 110, 116, 101, 110, 116, 45, 108, 101, 110, 103, 116, 104] := by
 rw [lit_iff]; exact Iff.rfl
theorem spec_GetResp_l0 (l : List Int) (a c : Int) (ls : List ByteArray) (b0 : ByteArray) (hx : ∀ x ∈ ls, x.size ≤ 1048576) (hn : ls.length ≤ 1048577) (X : Option (List S88 × Int) → Int × List S88 × ByteArray × Int × Bool)
  (hbad : X none = badR) :
  ∀ (m i : Nat) (sz : Int) (hs : List S88), ls.length - i = m → i ≤ ls.length → hs.length ≤ i →
  (∀ r, spL (ls.drop i) sz hs = some r → Ev (fun k => if r.2 < 0 then (spec_GetResp.j3 k l a r.2 true c r.1 b0) else (spec_GetResp.j3 k l a r.2 (decide (r.2 > (wrap64 ((l.length : Int) - a)))) c r.1 b0)) (X (some r))) →
  Ev (fun k => spec_GetResp.l0 k l a ls sz (i : Int) c hs b0) (X (spL (ls.drop i) sz hs))
 | 0, i, sz, hs, hm, hi, hh, H => by
  have he : i = ls.length := by omega
  subst he
  rw [List.drop_length, spL] at H ⊢
  apply ev_succ
  simp only [spec_GetResp.l0, if_neg (show ¬ ((ls.length : Nat) : Int) < (ls.length : Int) by omega)]
  exact H _ rfl
 | m + 1, i, sz, hs, hm, hi, hh, H => by
  have hlt : i < ls.length := by omega
  have hgt : ls[i]? = some ls[i] := List.getElem?_eq_getElem hlt
  have hd : ls.drop i = ls[i] :: ls.drop (i + 1) := List.drop_eq_getElem_cons hlt
  have hw1 : wrap64 ((i : Int) + 1) = ((i + 1 : Nat) : Int) := by rw [wrap_id (by omega) (by omega)]; rfl
  have hwl : wrap64 ((ls.length : Int) - 1) = ((ls.length - 1 : Nat) : Int) := by rw [wrap_id (by omega) (by omega)]; omega
  have hrd : rdOf ByteArray.empty ls (i : Int) = ls[i] := by rw [rdOf_at, List.getD_eq_getElem?_getD, hgt]; rfl
  have hsz := hx ls[i] (List.getElem_mem hlt)
  have hs5 := headS_size ls[i]
  have hnil : ls.drop (i + 1) = [] ↔ i = ls.length - 1 := by rw [List.drop_eq_nil_iff]; omega
  have a5 : hs.length < 4398046511104 := by omega
  rw [hd, spL] at H ⊢
  apply ev_succ
  simp only [spec_GetResp.l0, if_pos (show (i : Int) < (ls.length : Int) by omega), if_pos (show (0 : Int) ≤ (i : Int) by omega), hrd, hwl]
  refine Ev.bind (spec_l5Head_ev ls[i] hsz) ?_
  refine ev_iteB (fun q => ?_) (fun q => ?_)
  ·rw [if_pos q] at H ⊢
   have app : ¬ (ls.drop (i + 1) = [] ∧ bytesOf (headS ls[i]).1 = [99, 111, 110, 116, 101, 110, 116, 45, 108, 101, 110, 103, 116, 104]) → Ev (fun k => spec_GetResp.j2 k l a ls sz (i : Int) (headS ls[i]).2.2 false c hs b0 (headS ls[i]).1 (headS ls[i]).2.1) (X (if ls.drop (i + 1) = [] ∧ bytesOf (headS ls[i]).1 = [99, 111, 110, 116, 101, 110, 116, 45, 108, 101, 110, 103, 116, 104] then (if (pnum (headS ls[i]).2.1 400).2 = true then spL (ls.drop (i + 1)) (pnum (headS ls[i]).2.1 400).1 hs else none) else spL (ls.drop (i + 1)) sz (hs ++ [⟨(headS ls[i]).1, (headS ls[i]).2.1⟩]))) := by
    intro hno
    rw [if_neg hno] at H ⊢
    apply ev_succ
    simp only [spec_GetResp.j2, Bool.false_eq_true, if_false, if_pos a5, if_pos q, hw1]
    exact spec_GetResp_l0 l a c ls b0 hx hn X hbad m (i + 1) sz _ (by omega) (by omega) (by simp; omega) H
   refine ev_ite (fun q1 => ?_) (fun q1 => app (fun h => q1 (by have := hnil.1 h.1; omega)))
   by_cases q2 : bytesOf (headS ls[i]).1 = [99, 111, 110, 116, 101, 110, 116, 45, 108, 101, 110, 103, 116, 104]
   ·have e : ((headS ls[i]).1.toList == ([99, 111, 110, 116, 101, 110, 116, 45, 108, 101, 110, 103, 116, 104] : List UInt8)) = true := beq_iff_eq.2 ((lit_CL _).2 q2)
    rw [if_pos ⟨hnil.2 (by omega), q2⟩] at H ⊢
    rw [e]
    apply ev_succ
    simp only [spec_GetResp.j2, if_true, hw1]
    refine Ev.bind (spec_ParseNum_ev _ 400 (by omega)) ?_
    refine ev_iteB (fun q3 => ?_) (fun q3 => ?_)
    ·rw [if_pos q3] at H ⊢
     exact spec_GetResp_l0 l a c ls b0 hx hn X hbad m (i + 1) _ hs (by omega) (by omega) (by omega) H
    ·rw [if_neg (by rw [q3]; simp), hbad]; exact Ev.now _
   ·have e : ((headS ls[i]).1.toList == ([99, 111, 110, 116, 101, 110, 116, 45, 108, 101, 110, 103, 116, 104] : List UInt8)) = false := beq_eq_false_iff_ne.2 (fun h => q2 ((lit_CL _).1 h))
    rw [e]
    exact app (fun h => q2 h.2)
  ·rw [if_neg (by rw [q]; simp), hbad]; exact Ev.now _
def specLs (l : List Int) : List ByteArray := linesC (l.take ((fnd4 0 l).toNat - 4))
def specC (l : List Int) : Int := (pnum (strOfNums ((bytesOf ((specLs l).getD 0 ByteArray.empty)).drop 9)) 599).1
def specB (l : List Int) (n : Int) : ByteArray := strOfNums ((l.take ((fnd4 0 l).toNat + n.toNat)).drop (fnd4 0 l).toNat)
noncomputable def specX (l : List Int) : Option (List S88 × Int) → Int × List S88 × ByteArray × Int × Bool
 | none => badR
 | some (hs, sz) => if 0 ≤ sz ∧ sz ≤ (l.length : Int) - fnd4 0 l ∧ eqb (respV (specC l) hs (specB l sz)) (l.take ((fnd4 0 l).toNat + sz.toNat)) = true ∧ respV (specC l) hs (specB l sz) ≠ [] then (specC l, hs, specB l sz, fnd4 0 l + sz, true) else badR
noncomputable def specR (l : List Int) : Int × List S88 × ByteArray × Int × Bool :=
 if 0 ≤ fnd4 0 l ∧ 2 ≤ (specLs l).length ∧ ((specLs l).getD 0 ByteArray.empty).size = 12 ∧ eqb ((bytesOf ((specLs l).getD 0 ByteArray.empty)).take 9) [72, 84, 84, 80, 47, 49, 46, 49, 32] = true then specX l (spL ((specLs l).drop 1) (-1) []) else badR

theorem spec_j0_bad (l : List Int) (x5 : Int) (x6 : List ByteArray) (c : Int) (b : ByteArray) : Ev (fun k => spec_GetResp.j0 k l x5 x6 true c b) badR := by
 apply ev_succ; simp only [spec_GetResp.j0, if_true]; exact Ev.now _
theorem spec_j3_bad (l : List Int) (x5 x8 c : Int) (hs : List S88) (b : ByteArray) : Ev (fun k => spec_GetResp.j3 k l x5 x8 true c hs b) badR := by
 apply ev_succ; simp only [spec_GetResp.j3, if_true]; exact Ev.now _
theorem spec_GetResp_ev (l : List Int) (hl : l.length ≤ 1048576) (hr : ∀ x ∈ l, 0 ≤ x ∧ x < 256) : Ev (fun k => spec_GetResp.f k l) (specR l) := by
 unfold spec_GetResp.f
 refine Ev.bind (spec_l5End_ev l (by omega) hr) ?_
 refine ev_ite (fun q => ?_) (fun q => ?_)
 ·unfold specR; rw [if_neg (fun h => by omega)]; exact Ev.now _
 have h4 := fnd4_4 l 0 (by omega)
 obtain ⟨a, ha⟩ : ∃ a : Nat, fnd4 0 l = (a : Int) := ⟨(fnd4 0 l).toNat, by omega⟩
 rw [ha] at h4 q
 have eLs : specLs l = linesC (l.take (a - 4)) := by unfold specLs; rw [ha, Int.toNat_natCast]
 have hrt : ∀ x ∈ l.take (a - 4), 0 ≤ x ∧ x < 256 := fun x hx => hr x (List.mem_of_mem_take hx)
 have hln := linesC_len (l.take (a - 4))
 have hsz := linesC_size hrt
 rw [← eLs] at hln hsz
 rw [List.length_take] at hln hsz
 have hw : wrap64 ((a : Int) - 4) = ((a - 4 : Nat) : Int) := by rw [wrap_id (by omega) (by omega)]; omega
 simp only [ha, hw, if_pos (show (0 : Int) ≤ ((a - 4 : Nat) : Int) by omega), if_pos (show ((a - 4 : Nat) : Int) ≤ (l.length : Int) by omega), Int.toNat_natCast]
 have hlines := spec_l3Lines_ev (strOfNums (l.take (a - 4))) (by rw [strOfNums_size, List.length_take]; omega)
 rw [bytesOf_strOfNums _ hrt, ← eLs] at hlines
 refine Ev.bind hlines ?_
 obtain ⟨ls, hls⟩ : ∃ ls, ls = specLs l := ⟨_, rfl⟩
 have eR : specR l = if 0 ≤ fnd4 0 l ∧ 2 ≤ ls.length ∧ (ls.getD 0 ByteArray.empty).size = 12 ∧ eqb ((bytesOf (ls.getD 0 ByteArray.empty)).take 9) [72, 84, 84, 80, 47, 49, 46, 49, 32] = true then specX l (spL (ls.drop 1) (-1) []) else badR := by unfold specR; rw [hls]
 have eC : specC l = (pnum (strOfNums ((bytesOf (ls.getD 0 ByteArray.empty)).drop 9)) 599).1 := by unfold specC; rw [hls]
 rw [← hls] at hln hsz ⊢
 have h00 : rdOf ByteArray.empty ls 0 = ls.getD 0 ByteArray.empty := rdOf_at ls 0
 have hz : (ls.getD 0 ByteArray.empty).size ≤ 1048576 := by
  have h0 : 0 < ls.length := by omega
  rw [List.getD_eq_getElem?_getD, List.getElem?_eq_getElem h0]
  have := hsz ls[0] (List.getElem_mem h0)
  show ls[0].size ≤ _
  omega
 simp only [h00]
 rw [eR]
 refine ev_ite (fun q1 => ?_) (fun q1 => ?_)
 ·rw [if_neg (fun h => by omega)]; exact spec_j0_bad _ _ _ _ _
 refine ev_ite (fun _ => ?_) (fun q => absurd (by omega) q)
 refine ev_ite (fun q2 => ?_) (fun q2 => ?_)
 ·refine ev_ite (fun _ => ?_) (fun q => absurd (by decide) q)
  refine ev_ite (fun _ => ?_) (fun q => absurd (by omega) q)
  have e9 : bytesOf ((ls.getD 0 ByteArray.empty).extract 0 9) = (bytesOf (ls.getD 0 ByteArray.empty)).take 9 := by rw [bytesOf_extract, List.drop_zero]
  by_cases q3 : (bytesOf (ls.getD 0 ByteArray.empty)).take 9 = [72, 84, 84, 80, 47, 49, 46, 49, 32]
  ·have e : (((ls.getD 0 ByteArray.empty).extract 0 9).toList != ([72, 84, 84, 80, 47, 49, 46, 49, 32] : List UInt8)) = false := by
    rw [bne_eq_false_iff_eq, lit_iff, e9, q3]; rfl
   rw [e, if_pos ⟨by omega, by omega, by omega, (eqb_iff _ _).2 q3⟩]
   apply ev_succ
   simp only [spec_GetResp.j0, Bool.false_eq_true, if_false, if_pos (show (0 : Int) < (ls.length : Int) by omega), h00, if_pos (show (9 : Int) ≤ ((ls.getD 0 ByteArray.empty).size : Int) by omega)]
   have ed : (ls.getD 0 ByteArray.empty).extract 9 (ls.getD 0 ByteArray.empty).size = strOfNums ((bytesOf (ls.getD 0 ByteArray.empty)).drop 9) := by
    have h9 := bytesOf_extract (ls.getD 0 ByteArray.empty) 9 (ls.getD 0 ByteArray.empty).size
    rw [List.take_of_length_le (by rw [bytesOf_length]; exact Nat.le_refl _)] at h9
    rw [← h9, strOfNums_bytesOf]
   rw [ed]
   refine Ev.bind (spec_ParseNum_ev _ 599 (by rw [strOfNums_size, List.length_drop, bytesOf_length]; omega)) ?_
   rw [← eC]
   refine spec_GetResp_l0 l (a : Int) (specC l) ls (⟨#[]⟩ : ByteArray) (fun x hx => by have := hsz x hx; omega) (by omega) (specX l) rfl _ 1 (-1) [] rfl (by omega) (by simp) ?_
   intro r hr2
   obtain ⟨f1, f2, f3, f4⟩ := spL_facts _ _ _ 1048576 r (fun x hx => by have := hsz x (List.mem_of_mem_drop hx); omega) (by simp) (by omega) (by omega) hr2
   obtain ⟨hs, sz⟩ := r
   simp only [List.length_nil, List.length_drop] at f1 f2 f3 f4 ⊢
   have eX : specX l (some (hs, sz)) = if 0 ≤ sz ∧ sz ≤ (l.length : Int) - (a : Int) ∧ eqb (respV (specC l) hs (specB l sz)) (l.take (a + sz.toNat)) = true ∧ respV (specC l) hs (specB l sz) ≠ [] then (specC l, hs, specB l sz, (a : Int) + sz, true) else badR := by
    rw [specX, ha, Int.toNat_natCast]
   rw [eX]
   have hwd : wrap64 ((l.length : Int) - (a : Int)) = (l.length : Int) - (a : Int) := wrap_id (by omega) (by omega)
   refine ev_ite (fun p1 => ?_) (fun p1 => ?_)
   ·rw [if_neg (fun h => by omega)]; exact spec_j3_bad _ _ _ _ _ _
   rw [hwd]
   by_cases p2 : sz > (l.length : Int) - (a : Int)
   ·rw [decide_eq_true p2, if_neg (fun h => by omega)]; exact spec_j3_bad _ _ _ _ _ _
   rw [decide_eq_false p2]
   have hwa : wrap64 ((a : Int) + sz) = (a : Int) + sz := wrap_id (by omega) (by omega)
   have hta : ((a : Int) + sz).toNat = a + sz.toNat := by omega
   have eB : specB l sz = strOfNums ((l.take (a + sz.toNat)).drop a) := by unfold specB; rw [ha, Int.toNat_natCast]
   have hBs : (specB l sz).size ≤ 1048576 := by rw [eB, strOfNums_size, List.length_drop, List.length_take]; omega
   have hput := spec_PutResp_ev (specC l) hs (specB l sz) (by omega) f2 hBs
   apply ev_succ
   simp only [spec_GetResp.j3, Bool.false_eq_true, if_false, hwa, hta, Int.toNat_natCast, if_pos (show (0 : Int) ≤ (a : Int) by omega), if_pos (show (a : Int) ≤ (a : Int) + sz by omega), if_pos (show (a : Int) + sz ≤ (l.length : Int) by omega), if_pos (show (0 : Int) ≤ (a : Int) + sz by omega), ← eB]
   refine Ev.bind hput ?_
   have hiff : (strOfNums (respV (specC l) hs (specB l sz))).toList = (strOfNums (l.take (a + sz.toNat))).toList ↔ respV (specC l) hs (specB l sz) = l.take (a + sz.toNat) := by
    rw [toList_iff]
    constructor
    ·intro h
     have := congrArg bytesOf h
     rwa [bytesOf_strOfNums _ (respV_range _ _ _), bytesOf_strOfNums _ (fun x hx => hr x (List.mem_of_mem_take hx))] at this
    ·intro h; rw [h]
   refine ev_ite (fun p3 => ?_) (fun p3 => ?_)
   ·refine Ev.bind hput ?_
    refine ev_ite (fun p4 => ?_) (fun p4 => ?_)
    ·rw [if_neg (fun h => h.2.2.2 (List.eq_nil_of_length_eq_zero (by omega)))]; exact Ev.now _
    ·rw [if_pos ⟨by omega, by omega, (eqb_iff _ _).2 (hiff.1 p3), fun h => p4 (by rw [h]; rfl)⟩]; exact Ev.now _
   ·rw [if_neg (fun h => p3 (hiff.2 ((eqb_iff _ _).1 h.2.2.1)))]; exact Ev.now _
  ·have e : (((ls.getD 0 ByteArray.empty).extract 0 9).toList != ([72, 84, 84, 80, 47, 49, 46, 49, 32] : List UInt8)) = true := by
    rw [bne_iff_ne]; intro h; rw [lit_iff, e9] at h; exact q3 h
   rw [e, if_neg (fun h => q3 ((eqb_iff _ _).1 h.2.2.2))]; exact spec_j0_bad _ _ _ _ _
 ·rw [if_neg (fun h => q2 (by omega))]; exact spec_j0_bad _ _ _ _ _

/-! what is written is read again -/
def lineH (h : S88) : List Int := bytesOf h.f0 ++ 58 :: 32 :: bytesOf h.f1
theorem htL_bytes : ∀ (l : List S88) (x : ByteArray), bytesOf (htL x l) = bytesOf x ++ l.flatMap (fun h => lineH h ++ [13, 10])
 | [], x => by simp [htL]
 | h :: r, x => by
  rw [htL, htL_bytes r]
  unfold htCat lineH
  simp only [bytesOf_append, List.flatMap_cons, List.append_assoc]
  rfl
theorem joinC_flat (f : S88 → List Int) (z : List Int) : ∀ (hs : List S88) (a : List Int), joinC (a :: (hs.map f ++ [z])) = a ++ 13 :: 10 :: (hs.flatMap (fun h => f h ++ [13, 10]) ++ z)
 | [], a => by simp [joinC]
 | h :: r, a => by
  rw [List.map_cons, List.cons_append, joinC, joinC_flat f z r (f h)]
  simp
theorem snB_mem : ∀ (l : List Int) (i : Nat), snB i l = true → ∀ x ∈ l, (97 ≤ x ∧ x ≤ 122) ∨ (48 ≤ x ∧ x ≤ 57) ∨ x = 45
 | [], _, _, x, hx => by simp at hx
 | c :: r, i, h, x, hx => by
  rw [snB] at h
  simp only [Bool.and_eq_true] at h
  rcases List.mem_cons.1 hx with e | e
  ·subst e
   have h1 := h.1
   unfold snC smallC digitC at h1
   simp only [Bool.or_eq_true, Bool.and_eq_true, decide_eq_true_eq] at h1
   omega
  ·exact snB_mem r (i + 1) h.2 x e
theorem headOk_facts {h : S88} (q : headOk h = true) : (∀ x ∈ bytesOf h.f0, (97 ≤ x ∧ x ≤ 122) ∨ (48 ≤ x ∧ x ≤ 57) ∨ x = 45) ∧ (∀ x ∈ bytesOf h.f1, 32 ≤ x ∧ x ≤ 126) ∧ h.f0.size ≤ 20 ∧ h.f1.size ≤ 60 := by
 unfold headOk smallName valOk lenB at q
 simp only [Bool.and_eq_true, decide_eq_true_eq] at q
 obtain ⟨⟨q1, q2⟩, ⟨q3, q4, _⟩, _⟩ := q
 refine ⟨snB_mem _ _ q1, fun x hx => ?_, by omega, by omega⟩
 have := (List.all_eq_true.1 q4) x hx
 unfold plainC at this
 simp only [Bool.and_eq_true, decide_eq_true_eq] at this
 exact this
def respLs (c : Int) (hs : List S88) (b : ByteArray) : List (List Int) := (bytesOf P9 ++ numD c.toNat) :: (hs.map lineH ++ [bytesOf CLp ++ numD b.size])
theorem respText_lines (c : Int) (hs : List S88) (b : ByteArray) : bytesOf (respText c hs b) = joinC (respLs c hs b) ++ 13 :: 10 :: 13 :: 10 :: bytesOf b := by
 unfold respText respLs lenText headText
 rw [joinC_flat]
 simp only [bytesOf_append, htL_bytes, bytesOf_strOfNums _ (numD_range _), List.append_assoc, List.cons_append]
 rfl
theorem respOk_facts {c : Int} {hs : List S88} {b : ByteArray} (q : respOk c hs b = true) : 100 ≤ c ∧ c ≤ 599 ∧ hs.length ≤ 8 ∧ b.size ≤ 400 ∧ ∀ h ∈ hs, headOk h = true := by
 unfold respOk headsOk headsOkL at q
 simp only [Bool.and_eq_true, decide_eq_true_eq] at q
 obtain ⟨⟨q1, q2⟩, ⟨q3, q4⟩, q5⟩ := q
 exact ⟨q1, q2, by omega, by omega, List.all_eq_true.1 q3⟩
theorem respLs_facts {c : Int} {hs : List S88} {b : ByteArray} (q : respOk c hs b = true) : ∀ a ∈ respLs c hs b, a ≠ [] ∧ ∀ x ∈ a, x ≠ 13 := by
 obtain ⟨_, _, _, _, hh⟩ := respOk_facts q
 intro a ha
 unfold respLs at ha
 rcases List.mem_cons.1 ha with e | e
 ·subst e
  refine ⟨by simp [P9, bytesOf], fun x hx => ?_⟩
  rcases List.mem_append.1 hx with h | h
  ·intro e; subst e; revert h; decide
  ·have := numD_dig _ x h; omega
 ·rcases List.mem_append.1 e with e | e
  ·obtain ⟨h, hm, rfl⟩ := List.mem_map.1 e
   have hf := headOk_facts (hh h hm)
   refine ⟨by simp [lineH], fun x hx => ?_⟩
   unfold lineH at hx
   rcases List.mem_append.1 hx with h | h
   ·have := hf.1 x h; omega
   ·rcases List.mem_cons.1 h with h | h
    ·omega
    ·rcases List.mem_cons.1 h with h | h
     ·omega
     ·have := hf.2.1 x h; omega
  ·rw [List.mem_singleton] at e
   subst e
   refine ⟨by simp [CLp, bytesOf], fun x hx => ?_⟩
   rcases List.mem_append.1 hx with h | h
   ·intro e; subst e; revert h; decide
   ·have := numD_dig _ x h; omega
theorem respLs_range {c : Int} {hs : List S88} {b : ByteArray} : ∀ a ∈ respLs c hs b, ∀ x ∈ a, 0 ≤ x ∧ x < 256 := by
 intro a ha
 unfold respLs at ha
 rcases List.mem_cons.1 ha with e | e
 ·subst e
  intro x hx
  rcases List.mem_append.1 hx with h | h
  ·exact bytesOf_range _ x h
  ·exact numD_range _ x h
 ·rcases List.mem_append.1 e with e | e
  ·obtain ⟨h, hm, rfl⟩ := List.mem_map.1 e
   intro x hx
   unfold lineH at hx
   rcases List.mem_append.1 hx with h | h
   ·exact bytesOf_range _ x h
   ·rcases List.mem_cons.1 h with h | h
    ·omega
    ·rcases List.mem_cons.1 h with h | h
     ·omega
     ·exact bytesOf_range _ x h
  ·rw [List.mem_singleton] at e
   subst e
   intro x hx
   rcases List.mem_append.1 hx with h | h
   ·exact bytesOf_range _ x h
   ·exact numD_range _ x h
theorem cutP_line {h : S88} (q : headOk h = true) : cutP 58 32 (strOfNums (lineH h)) = (h.f0, h.f1, true) := by
 refine cutP_app 58 32 h.f0 h.f1 _ ?_ (fun e => ?_)
 ·have : ∀ x ∈ lineH h, 0 ≤ x ∧ x < 256 := by
   intro x hx
   unfold lineH at hx
   rcases List.mem_append.1 hx with h | h
   ·exact bytesOf_range _ x h
   ·rcases List.mem_cons.1 h with h | h
    ·omega
    ·rcases List.mem_cons.1 h with h | h
     ·omega
     ·exact bytesOf_range _ x h
  rw [bytesOf_strOfNums _ this]; rfl
 ·have := (headOk_facts q).1 58 e; omega
theorem numD_3 {u : Nat} (h0 : 100 ≤ u) (h1 : u ≤ 599) : (numD u).length = 3 := by
 rw [numD_step u (by omega), numD_step (u / 10) (by omega), numD_low (u / 10 / 10) (by omega)]; rfl
theorem resp_read {c : Int} {hs : List S88} {b : ByteArray} (q : respOk c hs b = true) (x l : List Int) (hl : l = joinC (respLs c hs b) ++ 13 :: 10 :: 13 :: 10 :: (bytesOf b ++ x)) :
  fnd4 0 l = (((joinC (respLs c hs b)).length + 4 : Nat) : Int) ∧ cut4 l = (joinC (respLs c hs b), bytesOf b ++ x, true) ∧ linesC (joinC (respLs c hs b)) = (respLs c hs b).map strOfNums := by
 have hne : respLs c hs b ≠ [] := by unfold respLs; simp
 have hf := respLs_facts q
 have h1 := fnd4_join (respLs c hs b) 0 (bytesOf b ++ x) hne hf
 rw [← hl, Nat.zero_add] at h1
 refine ⟨h1, ?_, ?_⟩
 ·unfold cut4
  rw [h1, if_neg (by omega), Int.toNat_natCast]
  refine Prod.ext ?_ (Prod.ext ?_ rfl)
  ·simp only [Nat.add_sub_cancel]
   rw [hl, List.take_left]
  ·simp only []
   rw [hl, ← List.drop_drop, List.drop_left]; rfl
 ·unfold linesC
  rw [splC_join _ hne (fun a ha => (hf a ha).2)]
theorem getD_map0 (f : List Int → ByteArray) (a : List Int) (r : List (List Int)) (z : ByteArray) : ((a :: r).map f).getD 0 z = f a := rfl
theorem implR_of {c : Int} {hs : List S88} {b : ByteArray} (q : respOk c hs b = true) (l : List Int) (hp : respV c hs b <+: l) : implR l = (c, hs, b, ((respV c hs b).length : Int), true) := by
 obtain ⟨c0, c1, hn, hb, hh⟩ := respOk_facts q
 obtain ⟨x, hx⟩ := hp
 have hV : respV c hs b = joinC (respLs c hs b) ++ 13 :: 10 :: 13 :: 10 :: bytesOf b := by unfold respV; rw [if_pos q, respText_lines]
 have hl : l = joinC (respLs c hs b) ++ 13 :: 10 :: 13 :: 10 :: (bytesOf b ++ x) := by rw [← hx, hV]; simp
 obtain ⟨h1, h2, h3⟩ := resp_read q x l hl
 have hL : linesC (cut4 l).1 = (respLs c hs b).map strOfNums := by rw [h2]; exact h3
 have hlen : ((respLs c hs b).map strOfNums).length = hs.length + 2 := by unfold respLs; simp
 have eC : implC l = c := by
  unfold implC
  rw [hL]
  unfold respLs
  rw [getD_map0, tpre_app (strOfNums (bytesOf P9 ++ numD c.toNat)) P9 (strOfNums (numD c.toNat)) (by rw [bytesOf_strOfNums _ (respLs_range (c := c) (hs := hs) (b := b) _ (by unfold respLs; simp)), bytesOf_strOfNums _ (numD_range _)])]
  rw [pnum_yes _ 599 c.toNat (bytesOf_strOfNums _ (numD_range _)) (by rw [strOfNums_size, numD_3 (by omega) (by omega)]; omega) (by omega)]
  simp only []; omega
 have eQ : implQ l = ((b.size : Int), true) := by
  unfold implQ
  rw [hL, hlen]
  have hlast : ((respLs c hs b).map strOfNums).getD (hs.length + 2 - 1) ByteArray.empty = strOfNums (bytesOf CLp ++ numD b.size) := by
   unfold respLs
   rw [List.getD_eq_getElem?_getD, show hs.length + 2 - 1 = hs.length + 1 from rfl, List.map_cons, List.getElem?_cons_succ, List.map_append, List.getElem?_append_right (by simp)]
   simp
  have h7 := numD_len 3 b.size (by omega)
  rw [hlast, tpre_app _ CLp (strOfNums (numD b.size)) (by rw [bytesOf_strOfNums _ (respLs_range (c := c) (hs := hs) (b := b) _ (by unfold respLs; simp)), bytesOf_strOfNums _ (numD_range _)])]
  exact pnum_yes _ 400 b.size (bytesOf_strOfNums _ (numD_range _)) (by rw [strOfNums_size]; omega) (by omega)
 have eH : implH l = hs := by
  unfold implH
  rw [hL, hlen]
  have : (((respLs c hs b).map strOfNums).take (hs.length + 2 - 1)).drop 1 = hs.map fun h => strOfNums (lineH h) := by
   unfold respLs
   rw [show hs.length + 2 - 1 = hs.length + 1 from rfl, List.map_cons, List.take_succ_cons, List.drop_one, List.tail_cons, List.map_append, List.take_left' (by simp), List.map_map]
   rfl
  rw [this]
  unfold respHs
  rw [List.map_map]
  conv => rhs; rw [← List.map_id hs]
  refine List.map_congr_left (fun h hm => ?_)
  simp only [Function.comp, cutP_line (hh h hm)]
  rfl
 have eB : implB l = b := by
  unfold implB
  rw [eQ, h2]
  simp only [Int.toNat_natCast]
  rw [List.take_left' (bytesOf_length b), strOfNums_bytesOf]
 have eT : implT l = respV c hs b := by unfold implT; rw [eC, eH, eB]
 unfold implR
 rw [eT, eC, eH, eB, eQ, hL, hlen, h2]
 rw [if_pos]
 refine ⟨rfl, by omega, by omega, rfl, ?_, ?_, decide_eq_true ⟨x, hx⟩⟩
 ·simp only [List.length_append, bytesOf_length]; omega
 ·rw [hV]; simp
theorem spL_of {c : Int} {b : ByteArray} (hb : b.size ≤ 400) : ∀ (hs acc : List S88) (sz : Int), (∀ h ∈ hs, headOk h = true) → spL (hs.map (fun h => strOfNums (lineH h)) ++ [strOfNums (bytesOf CLp ++ numD b.size)]) sz acc = some (acc ++ hs, (b.size : Int))
 | [], acc, sz, _ => by
  have h7 := numD_len 3 b.size (by omega)
  have hr : ∀ x ∈ bytesOf CLp ++ numD b.size, 0 ≤ x ∧ x < 256 := by
   intro x hx
   rcases List.mem_append.1 hx with h | h
   ·exact bytesOf_range _ x h
   ·exact numD_range _ x h
  have hc : cutP 58 32 (strOfNums (bytesOf CLp ++ numD b.size)) = (⟨#[99, 111, 110, 116, 101, 110, 116, 45, 108, 101, 110, 103, 116, 104]⟩, strOfNums (numD b.size), true) :=
   cutP_app 58 32 _ _ _ (by rw [bytesOf_strOfNums _ hr, bytesOf_strOfNums _ (numD_range _)]; rfl) (by decide)
  have hS : headS (strOfNums (bytesOf CLp ++ numD b.size)) = (⟨#[99, 111, 110, 116, 101, 110, 116, 45, 108, 101, 110, 103, 116, 104]⟩, strOfNums (numD b.size), true) := by unfold headS; rw [hc]; rfl
  have hp : pnum (strOfNums (numD b.size)) 400 = ((b.size : Int), true) := pnum_yes _ 400 b.size (bytesOf_strOfNums _ (numD_range _)) (by rw [strOfNums_size]; omega) (by omega)
  rw [List.map_nil, List.nil_append, spL, hS]
  simp only [hp, if_true]
  rw [if_pos ⟨trivial, rfl⟩, spL, List.append_nil]
 | h :: r, acc, sz, hh => by
  have hc := cutP_line (hh h (by simp))
  have hS : headS (strOfNums (lineH h)) = (h.f0, h.f1, true) := by unfold headS; rw [hc]; rfl
  rw [List.map_cons, List.cons_append, spL, hS]
  simp only [if_true]
  rw [if_neg (by simp), spL_of (c := c) hb r _ sz (fun y hy => hh y (by simp [hy]))]
  simp
theorem specR_of {c : Int} {hs : List S88} {b : ByteArray} (q : respOk c hs b = true) (l : List Int) (hp : respV c hs b <+: l) : specR l = (c, hs, b, ((respV c hs b).length : Int), true) := by
 obtain ⟨c0, c1, hn, hb, hh⟩ := respOk_facts q
 obtain ⟨x, hx⟩ := hp
 have hV : respV c hs b = joinC (respLs c hs b) ++ 13 :: 10 :: 13 :: 10 :: bytesOf b := by unfold respV; rw [if_pos q, respText_lines]
 have hl : l = joinC (respLs c hs b) ++ 13 :: 10 :: 13 :: 10 :: (bytesOf b ++ x) := by rw [← hx, hV]; simp
 obtain ⟨h1, h2, h3⟩ := resp_read q x l hl
 have hL : specLs l = (respLs c hs b).map strOfNums := by
  unfold specLs
  rw [h1, Int.toNat_natCast, Nat.add_sub_cancel, hl, List.take_left]
  exact h3
 have hlen : ((respLs c hs b).map strOfNums).length = hs.length + 2 := by unfold respLs; simp
 have hfirst : ((respLs c hs b).map strOfNums).getD 0 ByteArray.empty = strOfNums (bytesOf P9 ++ numD c.toNat) := rfl
 have hfr : bytesOf (strOfNums (bytesOf P9 ++ numD c.toNat)) = bytesOf P9 ++ numD c.toNat := bytesOf_strOfNums _ (respLs_range (c := c) (hs := hs) (b := b) _ (by unfold respLs; simp))
 have h9 : (bytesOf P9).length = 9 := rfl
 have h3d := numD_3 (u := c.toNat) (by omega) (by omega)
 have eC : specC l = c := by
  unfold specC
  rw [hL, hfirst, hfr, List.drop_left' h9]
  rw [pnum_yes _ 599 c.toNat (bytesOf_strOfNums _ (numD_range _)) (by rw [strOfNums_size, h3d]; omega) (by omega)]
  simp only []; omega
 have eS : spL (((respLs c hs b).map strOfNums).drop 1) (-1) [] = some (hs, (b.size : Int)) := by
  have : ((respLs c hs b).map strOfNums).drop 1 = hs.map (fun h => strOfNums (lineH h)) ++ [strOfNums (bytesOf CLp ++ numD b.size)] := by
   unfold respLs
   rw [List.map_cons, List.drop_one, List.tail_cons, List.map_append, List.map_map]
   rfl
  rw [this, spL_of (c := c) hb hs [] (-1) hh]
  rfl
 have hlT : l = (joinC (respLs c hs b) ++ [13, 10, 13, 10]) ++ (bytesOf b ++ x) := by rw [hl]; simp
 have hlJ : (joinC (respLs c hs b) ++ [13, 10, 13, 10]).length = (joinC (respLs c hs b)).length + 4 := by simp
 have eB : specB l (b.size : Int) = b := by
  unfold specB
  rw [h1, Int.toNat_natCast, Int.toNat_natCast, List.drop_take, Nat.add_sub_cancel_left]
  conv => lhs; rw [hlT, List.drop_left' hlJ]
  rw [List.take_left' (bytesOf_length b), strOfNums_bytesOf]
 have eV : respV c hs b = l.take ((joinC (respLs c hs b)).length + 4 + b.size) := by
  rw [← hx, List.take_left']
  rw [hV]
  simp only [List.length_append, List.length_cons, bytesOf_length]; omega
 have elen : ((respV c hs b).length : Int) = (((joinC (respLs c hs b)).length + 4 : Nat) : Int) + (b.size : Int) := by
  rw [hV]
  simp only [List.length_append, List.length_cons, bytesOf_length]; omega
 unfold specR
 rw [hL, hlen, hfirst, hfr, eS, h1, if_pos ⟨by omega, by omega, by rw [strOfNums_size, List.length_append, h9, h3d], (eqb_iff _ _).2 (by rw [List.take_left' h9]; rfl)⟩]
 rw [specX, eC, eB, h1, Int.toNat_natCast, Int.toNat_natCast, if_pos, elen]
 refine ⟨by omega, ?_, (eqb_iff _ _).2 eV, ?_⟩
 ·rw [hl]; simp only [List.length_append, List.length_cons, bytesOf_length]; omega
 ·rw [hV]; simp
theorem respV_ok {c : Int} {hs : List S88} {b : ByteArray} (h : respV c hs b ≠ []) : respOk c hs b = true := by
 unfold respV at h
 split at h
 ·rename_i q; exact q
 ·exact absurd rfl h
/-- either all is bad, or an answer's bytes stand ahead -/
theorem resp_same (l : List Int) : implR l = specR l ∧ (implR l = badR ∨ ∃ c hs b, respOk c hs b = true ∧ respV c hs b <+: l ∧ implR l = (c, hs, b, ((respV c hs b).length : Int), true)) := by
 have hI : implR l = badR ∨ ∃ c hs b, respOk c hs b = true ∧ respV c hs b <+: l := by
  by_cases q : (cut4 l).2.2 = true ∧ 2 ≤ (linesC (cut4 l).1).length ∧ (linesC (cut4 l).1).length ≤ 10 ∧ (implQ l).2 = true ∧ (implQ l).1 ≤ ((cut4 l).2.1.length : Int) ∧ implT l ≠ [] ∧ decide (implT l <+: l) = true
  ·exact .inr ⟨implC l, implH l, implB l, respV_ok q.2.2.2.2.2.1, of_decide_eq_true q.2.2.2.2.2.2⟩
  ·left; unfold implR; rw [if_neg q]
 rcases hI with h | ⟨c, hs, b, h1, h2⟩
 ·refine ⟨?_, .inl h⟩
  have hS : specR l = badR ∨ ∃ c hs b, respOk c hs b = true ∧ respV c hs b <+: l := by
   unfold specR
   split
   ·cases hsp : spL ((specLs l).drop 1) (-1) [] with
    | none => left; rfl
    | some r =>
     obtain ⟨hs, sz⟩ := r
     rw [specX]
     split
     ·rename_i _ q
      exact .inr ⟨specC l, hs, specB l sz, respV_ok q.2.2.2, by rw [(eqb_iff _ _).1 q.2.2.1]; exact List.take_prefix _ _⟩
     ·left; rfl
   ·left; rfl
  rcases hS with h2 | ⟨c, hs, b, h1, h2⟩
  ·rw [h, h2]
  ·rw [implR_of h1 l h2, specR_of h1 l h2]
 ·have e := implR_of h1 l h2
  exact ⟨by rw [e, specR_of h1 l h2], .inr ⟨c, hs, b, h1, h2, e⟩⟩

theorem impl_sameHeads_ev (a b : List S88) (ha : a.length ≤ 9223372036854775806) : Ev (fun k => impl_sameHeads.f k a b) (eqb a b) := by
 unfold impl_sameHeads.f
 refine ev_ite (fun q => ?_) (fun q => ?_)
 ·have q' : a.length = b.length := by omega
  refine eq_loop a b (· = ·) q' ha (fun i k => impl_sameHeads.l0 k a b (a.length : Int) (i : Int)) _ ((eqb_iff a b).trans (list_eq_iff a b q')) ?_ ?_
  ·intro i hi
   apply ev_succ; simp only [impl_sameHeads.l0, if_neg (show ¬ (i : Int) < a.length by omega)]; exact Ev.now _
  ·intro i x y v hi hx hy hw1 ih
   have hxx : rd_T88 a (i : Int) = x := hx _
   have hyy : rd_T88 b (i : Int) = y := hy _
   refine ⟨fun hR => ?_, fun hR => ?_⟩
   ·apply ev_succ
    subst hR
    simp only [impl_sameHeads.l0, if_pos (show (i : Int) < a.length by omega), if_pos (show (0 : Int) ≤ i by omega), if_pos (show (i : Int) < b.length by omega), hxx, hyy, hw1, beq_self_eq_true, Bool.not_true, Bool.or_self, Bool.false_eq_true, if_false]; exact ih
   ·apply ev_succ
    simp only [impl_sameHeads.l0, if_pos (show (i : Int) < a.length by omega), if_pos (show (0 : Int) ≤ i by omega), if_pos (show (i : Int) < b.length by omega), hxx, hyy, hw1]
    refine ev_ite (fun _ => Ev.now _) (fun hn => absurd ?_ hn)
    rw [head_eq] at hR
    simp only [Bool.or_eq_true, Bool.not_eq_true', beq_eq_false_iff_ne, ne_eq, toList_iff]
    by_cases e0 : x.f0 = y.f0
    ·exact .inr (fun e1 => hR ⟨e0, e1⟩)
    ·exact .inl e0
 ·rw [eqb_ne (fun h => q (by rw [h]))]; exact Ev.now _
theorem spec_l3SameHeads_ev (a b : List S88) (ha : a.length ≤ 9223372036854775806) : Ev (fun k => spec_l3SameHeads.f k a b) (eqb a b) := by
 unfold spec_l3SameHeads.f
 refine ev_ite (fun q => ?_) (fun q => ?_)
 ·have q' : a.length = b.length := by omega
  refine eq_loop a b (· = ·) q' ha (fun i k => spec_l3SameHeads.l0 k a b (i : Int)) _ ((eqb_iff a b).trans (list_eq_iff a b q')) ?_ ?_
  ·intro i hi
   apply ev_succ; simp only [spec_l3SameHeads.l0, if_neg (show ¬ (i : Int) < a.length by omega)]; exact Ev.now _
  ·intro i x y v hi hx hy hw1 ih
   have hxx : rd_T88 a (i : Int) = x := hx _
   have hyy : rd_T88 b (i : Int) = y := hy _
   refine ⟨fun hR => ?_, fun hR => ?_⟩
   ·apply ev_succ
    subst hR
    simp only [spec_l3SameHeads.l0, if_pos (show (i : Int) < a.length by omega), if_pos (show (0 : Int) ≤ i by omega), if_pos (show (i : Int) < b.length by omega), hxx, hyy, hw1, beq_self_eq_true, Bool.not_true, Bool.or_self, Bool.false_eq_true, if_false]; exact ih
   ·apply ev_succ
    simp only [spec_l3SameHeads.l0, if_pos (show (i : Int) < a.length by omega), if_pos (show (0 : Int) ≤ i by omega), if_pos (show (i : Int) < b.length by omega), hxx, hyy, hw1]
    refine ev_ite (fun _ => Ev.now _) (fun hn => absurd ?_ hn)
    rw [head_eq] at hR
    simp only [Bool.or_eq_true, Bool.not_eq_true', beq_eq_false_iff_ne, ne_eq, toList_iff]
    by_cases e0 : x.f0 = y.f0
    ·exact .inr (fun e1 => hR ⟨e0, e1⟩)
    ·exact .inl e0
 ·rw [eqb_ne (fun h => q (by rw [h]))]; exact Ev.now _
theorem toList_beq (a b : ByteArray) : (a.toList == b.toList) = eqb a b := by
 rw [Bool.eq_iff_iff, beq_iff_eq, toList_iff, eqb_iff]

theorem impl_SameResp_ev (c : Int) (l : List S88) (b : ByteArray) (c' : Int) (l' : List S88) (b' : ByteArray) (hl : l.length ≤ 9223372036854775806) : Ev (fun k => impl_SameResp.f k c l b c' l' b') (decb (sameRespV c l b c' l' b')) := by
 unfold impl_SameResp.f
 refine ev_ite (fun q => ?_) (fun q => ?_)
 ·refine Ev.bind (impl_sameHeads_ev l l' hl) (ev_iteB (fun q1 => ?_) (fun q1 => ?_))
  ·rw [eqb_iff] at q1
   rw [toList_beq, show eqb b b' = decb (sameRespV c l b c' l' b') from eqb_congr2 ⟨fun h => ⟨q, q1, h⟩, fun h => h.2.2⟩]; exact Ev.now _
  ·have : ¬ l = l' := fun h => by rw [(eqb_iff l l').mpr h] at q1; cases q1
   rw [decb_false (fun h => this h.2.1)]; exact Ev.now _
 ·rw [decb_false (fun h => q h.1)]; exact Ev.now _
theorem spec_SameResp_ev (c : Int) (l : List S88) (b : ByteArray) (c' : Int) (l' : List S88) (b' : ByteArray) (hl : l.length ≤ 9223372036854775806) : Ev (fun k => spec_SameResp.f k c l b c' l' b') (decb (sameRespV c l b c' l' b')) := by
 unfold spec_SameResp.f
 refine ev_ite (fun q => ?_) (fun q => ?_)
 ·refine Ev.bind (spec_l3SameHeads_ev l l' hl) (ev_iteB (fun q1 => ?_) (fun q1 => ?_))
  ·rw [eqb_iff] at q1
   rw [toList_beq, show eqb b b' = decb (sameRespV c l b c' l' b') from eqb_congr2 ⟨fun h => ⟨q, q1, h⟩, fun h => h.2.2⟩]; exact Ev.now _
  ·have : ¬ l = l' := fun h => by rw [(eqb_iff l l').mpr h] at q1; cases q1
   rw [decb_false (fun h => this h.2.1)]; exact Ev.now _
 ·rw [decb_false (fun h => q h.1)]; exact Ev.now _

/-! what is drawn: something, with what is known of it -/
theorem bits255 (x : Int) : 0 ≤ Go.bits .and .i64 x 255 ∧ Go.bits .and .i64 x 255 ≤ 255 := by
 have h2 : (BitVec.ofInt 64 x).toNat &&& 255 ≤ 255 := Nat.and_le_right
 have h : Go.bits .and .i64 x 255 = IntKind.i64.wrap (((BitVec.ofInt 64 x &&& BitVec.ofInt 64 255).toNat : Nat) : Int) := rfl
 have e : (BitVec.ofInt 64 255).toNat = 255 := by decide
 rw [h, BitVec.toNat_and, e, IntKind.wrap_i64]
 omega
def Dr {α : Type} (f : List Int → Int → Int → Option (α × Int × Int)) (P : α → Prop) : Prop :=
 ∀ (b : List Int) (i h : Int), b.length ≤ 1048576 → 0 ≤ i → i ≤ b.length → ∃ x i' h', f b i h = some (x, i', h') ∧ P x ∧ 0 ≤ i' ∧ i' ≤ b.length
theorem l1New_ev (l : List Int) (hl : l.length ≤ 1048576) : ∃ h, Ev (fun k => spec_l1New.f k l) (l, (0 : Int), h) := by
 have key : ∀ n i (x : Int), l.length - i = n → ∃ h, Ev (fun k => spec_l1New.l0 k l x (i : Int)) (l, (0 : Int), h) := by
  intro n
  induction n with
  | zero =>
   intro i x hn
   refine ⟨x, ?_⟩
   apply ev_succ; simp only [spec_l1New.l0, if_neg (show ¬ (i : Int) < (l.length : Int) by omega)]; exact Ev.now _
  | succ n ih =>
   intro i x hn
   by_cases h4 : (i : Int) < 4000
   ·obtain ⟨h, hh⟩ := ih (i + 1) (Go.bits .and .i64 (wrap64 ((wrap64 ((wrap64 (x * 137)) + (wrap64 (rd l i)))) + 11)) 1073741823) (by omega)
    refine ⟨h, ?_⟩
    apply ev_succ
    simp only [spec_l1New.l0, if_pos (show (i : Int) < (l.length : Int) by omega), if_pos h4, if_pos (show (0 : Int) ≤ (i : Int) by omega), wrap_id (x := (i : Int) + 1) (by omega) (by omega)]
    exact hh
   ·refine ⟨x, ?_⟩
    apply ev_succ; simp only [spec_l1New.l0, if_pos (show (i : Int) < (l.length : Int) by omega), if_neg h4]; exact Ev.now _
 exact key _ 0 _ rfl
theorem l1Byte_dr : Dr spec_l1Byte.f (fun x => 0 ≤ x ∧ x ≤ 255) := by
 intro b i h hb h0 h1
 unfold spec_l1Byte.f
 by_cases q : i < (b.length : Int)
 ·rw [if_pos q, if_pos h0]
  exact ⟨_, _, _, rfl, bits255 _, by rw [wrap_id (by omega) (by omega)]; omega, by rw [wrap_id (by omega) (by omega)]; omega⟩
 ·rw [if_neg q]
  exact ⟨_, _, _, rfl, bits255 _, h0, h1⟩
theorem tmod_range (x n : Int) (hx : 0 ≤ x) (hn : 0 < n) : 0 ≤ Int.tmod x n ∧ Int.tmod x n < n := by
 rw [Int.tmod_eq_emod_of_nonneg hx]
 exact ⟨Int.emod_nonneg _ (by omega), Int.emod_lt_of_pos _ hn⟩
theorem l1Below_dr (n : Int) : Dr (fun b i h => spec_l1Below.f b i h n) (fun x => 0 ≤ x ∧ (0 < n → x < n)) := by
 intro b i h hb h0 h1
 show ∃ x i' h', spec_l1Below.f b i h n = some (x, i', h') ∧ _
 unfold spec_l1Below.f
 by_cases q : n ≤ 0
 ·rw [if_pos q]
  exact ⟨_, _, _, rfl, ⟨by omega, by omega⟩, h0, h1⟩
 ·rw [if_neg q]
  obtain ⟨x, i1, e1, f1, p1, a1, b1⟩ := l1Byte_dr b i h hb h0 h1
  by_cases q1 : n ≤ 256
  ·rw [if_pos q1, f1]
   simp only [Option.bind_some, if_neg (show ¬ n = 0 by omega)]
   have := tmod_range x n p1.1 (by omega)
   exact ⟨_, _, _, rfl, ⟨this.1, fun _ => this.2⟩, a1, b1⟩
  ·rw [if_neg q1, f1]
   obtain ⟨y, i2, e2, f2, p2, a2, b2⟩ := l1Byte_dr b i1 e1 hb a1 b1
   obtain ⟨z, i3, e3, f3, p3, a3, b3⟩ := l1Byte_dr b i2 e2 hb a2 b2
   simp only [Option.bind_some, f2, f3, if_neg (show ¬ n = 0 by omega)]
   rw [wrap_id (x := x * 65536) (by omega) (by omega), wrap_id (x := y * 256) (by omega) (by omega), wrap_id (x := x * 65536 + y * 256) (by omega) (by omega), wrap_id (x := x * 65536 + y * 256 + z) (by omega) (by omega)]
   have := tmod_range (x * 65536 + y * 256 + z) n (by omega) (by omega)
   exact ⟨_, _, _, rfl, ⟨this.1, fun _ => this.2⟩, a3, b3⟩

theorem l1Str_dr (l : List ByteArray) (hl : 0 < l.length) : Dr (fun b i h => spec_l1Str.f b i h l) (fun x => x ∈ l) := by
 intro b i h hb h0 h1
 obtain ⟨x, i1, e1, f1, p1, a1, b1⟩ := l1Below_dr (l.length : Int) b i h hb h0 h1
 have f1' : spec_l1Below.f b i h (l.length : Int) = some (x, i1, e1) := f1
 have hx := p1.2 (by omega)
 show ∃ x i' h', spec_l1Str.f b i h l = some (x, i', h') ∧ _
 unfold spec_l1Str.f
 rw [f1']
 simp only [Option.bind_some, if_pos p1.1, if_pos hx]
 refine ⟨_, _, _, rfl, ?_, a1, b1⟩
 have hn : x.toNat < l.length := by omega
 rw [rdOf, List.getD_eq_getElem?_getD, List.getElem?_eq_getElem hn]
 exact List.getElem_mem hn
theorem l1Int_dr (l : List Int) (hl : 0 < l.length) : Dr (fun b i h => spec_l1Int.f b i h l) (fun x => x ∈ l) := by
 intro b i h hb h0 h1
 obtain ⟨x, i1, e1, f1, p1, a1, b1⟩ := l1Below_dr (l.length : Int) b i h hb h0 h1
 have f1' : spec_l1Below.f b i h (l.length : Int) = some (x, i1, e1) := f1
 have hx := p1.2 (by omega)
 show ∃ x i' h', spec_l1Int.f b i h l = some (x, i', h') ∧ _
 unfold spec_l1Int.f
 rw [f1']
 simp only [Option.bind_some, if_pos p1.1, if_pos hx]
 refine ⟨_, _, _, rfl, ?_, a1, b1⟩
 have hn : x.toNat < l.length := by omega
 rw [rd, List.getD_eq_getElem?_getD, List.getElem?_eq_getElem hn]
 exact List.getElem_mem hn
def HdP (l : List S88) : Prop := l.length ≤ 20 ∧ ∀ x ∈ l, x.f0.size ≤ 100 ∧ x.f1.size ≤ 100
theorem HdP_snoc {l : List S88} {x : S88} {n : Nat} (h : HdP l) (hn : l.length ≤ n) (hn9 : n < 20) (h0 : x.f0.size ≤ 100) (h1 : x.f1.size ≤ 100) : HdP (l ++ [x]) ∧ (l ++ [x]).length ≤ n + 1 := by
 refine ⟨⟨by rw [List.length_append]; simp; omega, fun y hy => ?_⟩, by rw [List.length_append]; simp; omega⟩
 rcases List.mem_append.1 hy with hy | hy
 ·exact h.2 y hy
 ·simp only [List.mem_cons, List.not_mem_nil, or_false] at hy
  subst hy; exact ⟨h0, h1⟩
theorem l3DrawHeads_l0 : ∀ (n : Nat) (x : List S88) (b : List Int) (i h : Int), n ≤ 5 → HdP x → x.length ≤ 9 - n → b.length ≤ 1048576 → 0 ≤ i → i ≤ b.length → ∃ l i' h', Ev (fun k => spec_l3DrawHeads.l0 k x (n : Int) b i h) (l, i', h') ∧ HdP l ∧ l.length ≤ 9 ∧ 0 ≤ i' ∧ i' ≤ b.length
 | 0, x, b, i, h, hn, hx, hl, hb, h0, h1 => by
  refine ⟨x, i, h, ?_, hx, by omega, h0, h1⟩
  apply ev_succ
  simp only [spec_l3DrawHeads.l0, if_neg (show ¬ ((0 : Nat) : Int) > 0 by omega)]
  exact Ev.now _
 | n + 1, x, b, i, h, hn, hx, hl, hb, h0, h1 => by
  obtain ⟨y, i1, e1, f1, p1, a1, b1⟩ := l1Str_dr [(⟨#[105, 102]⟩ : ByteArray), (⟨#[100, 101, 112, 116, 104]⟩ : ByteArray), (⟨#[120, 45, 97]⟩ : ByteArray), (⟨#[104, 111, 115, 116]⟩ : ByteArray), (⟨#[105, 102, 45, 109, 97, 116, 99, 104]⟩ : ByteArray)] (by decide) b i h hb h0 h1
  have f1' : spec_l1Str.f b i h _ = some (y, i1, e1) := f1
  have hy : y.size ≤ 9 := (by decide : ∀ x ∈ _, x.size ≤ 9) y p1
  obtain ⟨z, i2, e2, f2, p2, a2, b2⟩ := l1Str_dr [(⟨#[]⟩ : ByteArray), (⟨#[48]⟩ : ByteArray), (⟨#[105, 110, 102, 105, 110, 105, 116, 121]⟩ : ByteArray), (⟨#[97, 32, 98]⟩ : ByteArray), (⟨#[34, 118, 49, 34]⟩ : ByteArray), (⟨#[40, 60, 49, 62, 41]⟩ : ByteArray)] (by decide) b i1 e1 hb a1 b1
  have f2' : spec_l1Str.f b i1 e1 _ = some (z, i2, e2) := f2
  have hz : z.size ≤ 9 := (by decide : ∀ x ∈ _, x.size ≤ 9) z p2
  obtain ⟨hx2, hl2⟩ := HdP_snoc (x := ⟨y, z⟩) hx hl (by omega) (by show y.size ≤ 100; omega) (by show z.size ≤ 100; omega)
  obtain ⟨l, i3, e3, f3, p3, q3, a3, b3⟩ := l3DrawHeads_l0 n (x ++ [⟨y, z⟩]) b i2 e2 (by omega) hx2 (by omega) hb a2 b2
  refine ⟨l, i3, e3, ?_, p3, q3, a3, b3⟩
  apply ev_succ
  have hw : wrap64 (((n + 1 : Nat) : Int) - 1) = (n : Int) := by rw [wrap_id (by omega) (by omega)]; omega
  simp only [spec_l3DrawHeads.l0, if_pos (show ((n + 1 : Nat) : Int) > 0 by omega), f1', f2', Option.bind_some, if_pos (show x.length < 4398046511104 by omega), hw]
  exact f3
theorem l3DrawHeads_dr (b : List Int) (i h : Int) (hb : b.length ≤ 1048576) (h0 : 0 ≤ i) (h1 : i ≤ b.length) : ∃ l i' h', Ev (fun k => spec_l3DrawHeads.f k b i h) (l, i', h') ∧ HdP l ∧ l.length ≤ 9 ∧ 0 ≤ i' ∧ i' ≤ b.length := by
 obtain ⟨x, i1, e1, f1, p1, a1, b1⟩ := l1Below_dr 3 b i h hb h0 h1
 have f1' : spec_l1Below.f b i h 3 = some (x, i1, e1) := f1
 have hx := p1.2 (by omega)
 have hx0 := p1.1
 obtain ⟨n, rfl⟩ : ∃ n : Nat, x = (n : Int) := ⟨x.toNat, by omega⟩
 obtain ⟨l, i2, e2, f2, p2⟩ := l3DrawHeads_l0 n [] b i1 e1 (by omega) ⟨by simp, by simp⟩ (by simp) hb a1 b1
 refine ⟨l, i2, e2, ?_, p2⟩
 unfold spec_l3DrawHeads.f
 simp only [f1', Option.bind_some]
 exact f2

theorem l1Once_dr (n : Int) : Dr (fun b i h => spec_l1Once.f b i h n) (fun _ => True) := by
 intro b i h hb h0 h1
 obtain ⟨x, i1, e1, f1, p1, a1, b1⟩ := l1Below_dr n b i h hb h0 h1
 have f1' : spec_l1Below.f b i h n = some (x, i1, e1) := f1
 show ∃ x i' h', spec_l1Once.f b i h n = some (x, i', h') ∧ _
 unfold spec_l1Once.f
 rw [f1']
 exact ⟨_, _, _, rfl, trivial, a1, b1⟩

def RpP (l : List S88) (y : ByteArray) : Prop := HdP l ∧ y.size ≤ 1000
theorem RpP_s {l : List S88} {y : ByteArray} (h : RpP l y) : l.length ≤ 1048576 ∧ (∀ x ∈ l, x.f0.size ≤ 1048576 ∧ x.f1.size ≤ 1048576) ∧ y.size ≤ 1048576 :=
 ⟨by have := h.1.1; omega, fun x hx => by have := h.1.2 x hx; omega, by have := h.2; omega⟩
theorem l5Draw_dr (b : List Int) (i h : Int) (hb : b.length ≤ 1048576) (h0 : 0 ≤ i) (h1 : i ≤ b.length) : ∃ c l y i' h', Ev (fun k => spec_l5Draw.f k b i h) (c, l, y, i', h') ∧ RpP l y ∧ l.length ≤ 9 ∧ 0 ≤ i' ∧ i' ≤ b.length := by
 obtain ⟨c, i1, e1, f1, _, a1, b1⟩ := l1Int_dr [200, 201, 204, 404, 412, 423, 100, 599] (by decide) b i h hb h0 h1
 have f1' : spec_l1Int.f b i h _ = some (c, i1, e1) := f1
 obtain ⟨l, i3, e3, f3, p3, q3, a3, b3⟩ := l3DrawHeads_dr b i1 e1 hb a1 b1
 obtain ⟨y, i4, e4, f4, p4, a4, b4⟩ := l1Str_dr [(⟨#[]⟩ : ByteArray), (⟨#[]⟩ : ByteArray), (⟨#[97]⟩ : ByteArray), (⟨#[104, 101, 108, 108, 111]⟩ : ByteArray), (⟨#[60, 97, 47, 62]⟩ : ByteArray), (⟨#[13, 10, 13, 10]⟩ : ByteArray), (⟨#[120, 0, 255]⟩ : ByteArray)] (by decide) b i3 e3 hb a3 b3
 have f4' : spec_l1Str.f b i3 e3 _ = some (y, i4, e4) := f4
 have hy : y.size ≤ 9 := (by decide : ∀ x ∈ _, x.size ≤ 9) y p4
 have f4b : spec_l3Body.f b i3 e3 = some (y, i4, e4) := by unfold spec_l3Body.f; rw [f4']; rfl
 refine ⟨c, l, y, i4, e4, ?_, ⟨p3, by omega⟩, q3, a4, b4⟩
 unfold spec_l5Draw.f
 simp only [f1', Option.bind_some]
 refine Ev.bind f3 ?_
 simp only [f4b, Option.bind_some]
 exact Ev.now _
theorem l5Any_dr (b : List Int) (i h : Int) (hb : b.length ≤ 1048576) (h0 : 0 ≤ i) (h1 : i ≤ b.length) : ∃ c l y i' h', Ev (fun k => spec_l5Any.f k b i h) (c, l, y, i', h') ∧ RpP l y ∧ 0 ≤ i' ∧ i' ≤ b.length := by
 obtain ⟨c, l, y, i1, e1, f1, ⟨pl, py⟩, q1, a1, b1⟩ := l5Draw_dr b i h hb h0 h1
 obtain ⟨v, i2, e2, f2, p2, a2, b2⟩ := l1Below_dr 10 b i1 e1 hb a1 b1
 have f2' : spec_l1Below.f b i1 e1 10 = some (v, i2, e2) := f2
 unfold spec_l5Any.f
 by_cases c0 : v = 0
 ·obtain ⟨z, i3, e3, f3, p3, a3, b3⟩ := l1Int_dr [0, 99, 600, (-1)] (by decide) b i2 e2 hb a2 b2
  have f3' : spec_l1Int.f b i2 e2 _ = some (z, i3, e3) := f3
  refine ⟨z, l, y, i3, e3, Ev.bind f1 ?_, ⟨pl, py⟩, a3, b3⟩
  simp only [f2', Option.bind_some, if_pos c0, f3']; exact Ev.now _
 by_cases c1 : v = 1
 ·obtain ⟨z, i3, e3, f3, p3, a3, b3⟩ := l1Str_dr [(⟨#[99, 111, 110, 116, 101, 110, 116, 45, 108, 101, 110, 103, 116, 104]⟩ : ByteArray), (⟨#[88]⟩ : ByteArray), (⟨#[97]⟩ : ByteArray)] (by decide) b i2 e2 hb a2 b2
  have f3' : spec_l1Str.f b i2 e2 _ = some (z, i3, e3) := f3
  have hz : z.size ≤ 19 := (by decide : ∀ x ∈ _, x.size ≤ 19) z p3
  obtain ⟨u, i4, e4, f4, p4, a4, b4⟩ := l1Str_dr [(⟨#[32, 97]⟩ : ByteArray), (⟨#[53]⟩ : ByteArray)] (by decide) b i3 e3 hb a3 b3
  have f4' : spec_l1Str.f b i3 e3 _ = some (u, i4, e4) := f4
  have hu : u.size ≤ 19 := (by decide : ∀ x ∈ _, x.size ≤ 19) u p4
  obtain ⟨hP2, _⟩ := HdP_snoc (x := ⟨z, u⟩) pl q1 (by omega) (by show z.size ≤ 100; omega) (by show u.size ≤ 100; omega)
  refine ⟨c, l ++ [⟨z, u⟩], y, i4, e4, Ev.bind f1 ?_, ⟨hP2, py⟩, a4, b4⟩
  simp only [f2', Option.bind_some, if_neg c0, if_pos c1, f3', f4', if_pos (show l.length < 4398046511104 by omega)]; exact Ev.now _
 by_cases c2 : v = 2
 ·obtain ⟨z, i3, e3, f3, p3, a3, b3⟩ := l1Below_dr 2 b i2 e2 hb a2 b2
  have f3' : spec_l1Below.f b i2 e2 2 = some (z, i3, e3) := f3
  have hz := p3.2 (by omega)
  have hz0 := p3.1
  have hw : wrap64 (400 + z) = 400 + z := wrap_id (by omega) (by omega)
  refine ⟨c, l, strOfNums (List.replicate (400 + z : Int).toNat 0), i3, e3, Ev.bind f1 ?_, ⟨pl, ?_⟩, a3, b3⟩
  ·simp only [f2', Option.bind_some, if_neg c0, if_neg c1, if_pos c2, f3', hw, if_pos (show (0 : Int) ≤ 400 + z by omega), if_pos (show (400 + z : Int).toNat ≤ 281474976710656 by omega)]; exact Ev.now _
  ·rw [size_len, bytesOf_strOfNums _ (fun x hx => by rw [List.eq_of_mem_replicate hx]; omega), List.length_replicate]; omega
 ·refine ⟨c, l, y, i2, e2, Ev.bind f1 ?_, ⟨pl, py⟩, a2, b2⟩
  simp only [f2', Option.bind_some, if_neg c0, if_neg c1, if_neg c2]; exact Ev.now _
theorem htL_size1 : ∀ (l : List S88) (x : ByteArray), (∀ y ∈ l, y.f0.size ≤ 100 ∧ y.f1.size ≤ 100) → (htL x l).size ≤ x.size + l.length * 204
 | [], x, _ => by simp [htL]
 | c :: r, x, h => by
  have h1 := htL_size1 r (htCat x c) (fun y hy => h y (by simp [hy]))
  have h2 := h c (by simp)
  rw [htCat_size] at h1
  simp only [htL, List.length_cons]
  omega
theorem respV_len1 {c : Int} {l : List S88} {b : ByteArray} (h : RpP l b) : (respV c l b).length ≤ 9000 := by
 have hh := htL_size1 l (⟨#[]⟩ : ByteArray) h.1.2
 rw [show (⟨#[]⟩ : ByteArray).size = 0 from rfl] at hh
 have hll := h.1.1
 have hb := h.2
 have hn := num_size b.size (by omega)
 unfold respV
 split
 ·rename_i q
  obtain ⟨c1, c2⟩ := respOk_c q
  have hn2 := num_size c.toNat (by omega)
  rw [← size_len]
  unfold respText headText lenText
  simp only [ByteArray.size_append, sz9b, sz2c, sz16]; omega
 ·simp
theorem DrawGetResp_ev (l : List Int) (h : Int) (hl : l.length ≤ 1048576) (hn : Ev (fun k => spec_l1New.f k l) (l, (0 : Int), h)) : ∃ g, Ev (fun k => spec_DrawGetResp.f k l) g ∧ g.length ≤ 20000 ∧ ∀ x ∈ g, 0 ≤ x ∧ x < 256 := by
 obtain ⟨c, s, y, i1, e1, f1, p1, q1, a1, b1⟩ := l5Draw_dr l 0 h hl (by omega) (by omega)
 have s1 := RpP_s p1
 have ep := spec_PutResp_ev c s y s1.1 s1.2.1 s1.2.2
 have tl := respV_len1 (c := c) p1
 have tr := respV_range c s y
 generalize respV c s y = t at ep tl tr
 obtain ⟨v, i2, e2, f2, p2, a2, b2⟩ := l1Below_dr 5 l i1 e1 hl a1 b1
 have f2' : spec_l1Below.f l i1 e1 5 = some (v, i2, e2) := f2
 obtain ⟨z, i3, e3, f3, p3, a3, b3⟩ := l1Below_dr ((t.length : Int) + 1) l i2 e2 hl a2 b2
 have f3' : spec_l1Below.f l i2 e2 ((t.length : Int) + 1) = some (z, i3, e3) := f3
 have hw : wrap64 ((t.length : Int) + 1) = (t.length : Int) + 1 := wrap_id (by omega) (by omega)
 have hz := p3.2 (by omega)
 have hz0 := p3.1
 unfold spec_DrawGetResp.f
 by_cases c0 : v = 0
 ·obtain ⟨u, i4, e4, f4, p4, a4, b4⟩ := l1Int_dr [0, 13, 10, 32, 58, 65] (by decide) l i3 e3 hl a3 b3
  have f4' : spec_l1Int.f l i3 e3 _ = some (u, i4, e4) := f4
  refine ⟨(([] ++ t.take z.toNat) ++ [u % 256]) ++ t.drop z.toNat, Ev.bind hn (Ev.bind f1 (Ev.bind ep ?_)), ?_, ?_⟩
  ·simp only [f2', Option.bind_some, if_pos c0, hw, f3', if_pos hz0, if_pos (show z ≤ (t.length : Int) by omega), f4']
   rw [if_pos (by simp only [List.length_nil, List.length_take]; omega)]
   (try simp only [Option.bind_some])
   rw [if_pos (by simp only [List.length_nil, List.length_append, List.length_take]; omega)]
   (try simp only [Option.bind_some])
   rw [if_pos (by simp only [List.length_nil, List.length_append, List.length_take, List.length_drop, List.length_cons]; omega)]
   exact Ev.now _
  ·simp only [List.length_nil, List.length_append, List.length_take, List.length_drop, List.length_cons]; omega
  ·intro x hx
   simp only [List.nil_append, List.mem_append, List.mem_cons, List.not_mem_nil, or_false] at hx
   rcases hx with (hx | hx) | hx
   ·exact tr x (List.mem_of_mem_take hx)
   ·subst hx; omega
   ·exact tr x (List.mem_of_mem_drop hx)
 by_cases c1 : v = 1
 ·refine ⟨t.take z.toNat, Ev.bind hn (Ev.bind f1 (Ev.bind ep ?_)), by rw [List.length_take]; omega, fun x hx => tr x (List.mem_of_mem_take hx)⟩
  simp only [f2', Option.bind_some, if_neg c0, if_pos c1, hw, f3', if_pos hz0, if_pos (show z ≤ (t.length : Int) by omega)]
  exact Ev.now _
 by_cases c2 : v = 2
 ·obtain ⟨c', s', y', i4, e4, f4, p4, q4, a4, b4⟩ := l5Draw_dr l i2 e2 hl a2 b2
  have s4 := RpP_s p4
  have ep' := spec_PutResp_ev c' s' y' s4.1 s4.2.1 s4.2.2
  have tl' := respV_len1 (c := c') p4
  have tr' := respV_range c' s' y'
  generalize respV c' s' y' = t' at ep' tl' tr'
  refine ⟨t ++ t', Ev.bind hn (Ev.bind f1 (Ev.bind ep ?_)), by rw [List.length_append]; omega, fun x hx => (List.mem_append.1 hx).elim (tr x) (tr' x)⟩
  simp only [f2', Option.bind_some, if_neg c0, if_neg c1, if_pos c2]
  refine Ev.bind f4 (Ev.bind ep' ?_)
  rw [if_pos (by omega)]
  exact Ev.now _
 ·refine ⟨t, Ev.bind hn (Ev.bind f1 (Ev.bind ep ?_)), by omega, tr⟩
  simp only [f2', Option.bind_some, if_neg c0, if_neg c1, if_neg c2]
  exact Ev.now _
theorem FnResps_j0 (c : Int) (d : List S88) (y : ByteArray) (p : RpP d y) : Ev (fun k => laws_FnResps.j0 k (respV c d y) false c d y) true := by
 have s := RpP_s p
 have tl := respV_len1 (c := c) p
 apply ev_succ
 simp only [laws_FnResps.j0, Bool.false_eq_true, if_false]
 refine Ev.bind (impl_RespOk_ev c d y (by omega) s.2.1) ?_
 refine ev_ite (fun q => ?_) (fun q => ?_)
 ·simp only [Option.bind_some, List.nil_append]
  refine ev_ite (fun _ => ?_) (fun q2 => absurd (by simp only [List.length_nil]; omega) q2)
  refine ev_ite (fun _ => ?_) (fun q2 => absurd (by simp only [List.length_nil, List.length_cons]; omega) q2)
  have hr : ∀ x ∈ respV c d y ++ [72, 13], 0 ≤ x ∧ x < 256 := by
   intro x hx
   rcases List.mem_append.1 hx with hx | hx
   ·exact respV_range c d y x hx
   ·simp only [List.mem_cons, List.not_mem_nil, or_false] at hx; omega
  have hi := impl_GetResp_ev (respV c d y ++ [72, 13]) (by rw [List.length_append]; simp; omega) hr
  rw [implR_of q _ (List.prefix_append _ _)] at hi
  refine Ev.bind hi ?_
  simp only [if_true]
  have hs := impl_SameResp_ev c d y c d y (by omega)
  rw [decb_true ⟨rfl, rfl, rfl⟩] at hs
  exact Ev.bind hs (Ev.now _)
 ·have e : respV c d y = [] := by unfold respV; rw [if_neg q]
  rw [e]; exact Ev.now _
theorem FnResps : laws_FnResps.Pure := by
 intro l _ _
 apply Ev.rounds
 unfold laws_FnResps.f laws_big.f
 simp only [Option.bind_some]
 refine ev_iteB (fun _ => Ev.now _) (fun q => ?_)
 have hl : l.length ≤ 1048576 := by
  have := of_decide_eq_false q
  omega
 obtain ⟨h, hn⟩ := l1New_ev l hl
 obtain ⟨c, d, y, i1, e1, f1, p1, a1, b1⟩ := l5Any_dr l 0 h hl (by omega) (by omega)
 have s1 := RpP_s p1
 have er : Ev (fun k => spec_DrawPutResp.f k l) (c, d, y) := by
  unfold spec_DrawPutResp.f; exact Ev.bind hn (Ev.bind f1 (Ev.now _))
 obtain ⟨o, i2, e2, f2, _, a2, b2⟩ := l1Once_dr 2 l i1 e1 hl a1 b1
 have f2' : spec_l1Once.f l i1 e1 2 = some (o, i2, e2) := f2
 have es : ∃ c' d' y', Ev (fun k => spec_DrawSameResp.f k l) (c, d, y, c', d', y') := by
  cases o with
  | true =>
   refine ⟨c, d, y, ?_⟩
   unfold spec_DrawSameResp.f
   refine Ev.bind hn (Ev.bind f1 ?_)
   simp only [f2', Option.bind_some, if_true, List.length_nil, List.nil_append, if_pos (show 0 + d.length < 4398046511104 by omega)]
   exact Ev.now _
  | false =>
   obtain ⟨c', d', y', i3, e3, f3, p3, a3, b3⟩ := l5Any_dr l i2 e2 hl a2 b2
   refine ⟨c', d', y', ?_⟩
   unfold spec_DrawSameResp.f
   refine Ev.bind hn (Ev.bind f1 ?_)
   simp only [f2', Option.bind_some, Bool.false_eq_true, if_false]
   exact Ev.bind f3 (Ev.now _)
 obtain ⟨c', d', y', es⟩ := es
 obtain ⟨g, eg, hgl, hgr⟩ := DrawGetResp_ev l h hl hn
 have hI := impl_GetResp_ev g (by omega) hgr
 have hS := spec_GetResp_ev g (by omega) hgr
 obtain ⟨hsame, hcase⟩ := resp_same g
 rw [← hsame] at hS
 refine Ev.bind er (Ev.bind (impl_PutResp_ev c d y s1.1 s1.2.1 s1.2.2) (Ev.bind eg (Ev.bind hI (Ev.bind hS (Ev.bind es ?_)))))
 simp only [bne_self_eq_false, Bool.false_eq_true, if_false]
 have tail : Ev (fun k => (impl_SameResp.f k c d y c' d' y').bind fun t517 => (spec_SameResp.f k c d y c' d' y').bind fun t518 => if (t517 != t518) = true then (laws_FnResps.j0 k (respV c d y) true c d y) else ((impl_RespOk.f k c d y).bind fun t519 => ((spec_RespOk.f k c d y).bind fun t520 => (laws_FnResps.j0 k (respV c d y) (t519 != t520) c d y)))) true := by
  refine Ev.bind (impl_SameResp_ev c d y c' d' y' (by omega)) (Ev.bind (spec_SameResp_ev c d y c' d' y' (by omega)) ?_)
  simp only [bne_self_eq_false, Bool.false_eq_true, if_false]
  refine Ev.bind (impl_RespOk_ev c d y (by omega) s1.2.1) (Ev.bind (spec_RespOk_ev c d y (by omega) s1.2.1) ?_)
  simp only [bne_self_eq_false]
  exact FnResps_j0 c d y p1
 rcases hcase with hc | ⟨c9, h9, b9, ok9, pre9, e9⟩
 ·rw [hc]
  simp only [badR, Bool.false_eq_true, if_false]
  exact tail
 ·rw [e9]
  simp only [if_true]
  obtain ⟨_, _, k1, k2, k3⟩ := respOk_facts ok9
  have ks : ∀ x ∈ h9, x.f0.size ≤ 1048576 ∧ x.f1.size ≤ 1048576 := fun x hx => by have := headOk_facts (k3 x hx); omega
  refine Ev.bind (impl_PutResp_ev c9 h9 b9 (by omega) ks (by omega)) ?_
  have hp := pre9.length_le
  refine ev_ite (fun _ => ?_) (fun q2 => absurd (by omega) q2)
  refine ev_ite (fun _ => ?_) (fun q2 => absurd (by omega) q2)
  refine ev_ite (fun _ => ?_) (fun q2 => absurd (by rw [Int.toNat_natCast, ← List.prefix_iff_eq_take.1 pre9]) q2)
  exact tail

end Go.Proofs.YtfncjddolbghlaaGreatDoor.Pure
