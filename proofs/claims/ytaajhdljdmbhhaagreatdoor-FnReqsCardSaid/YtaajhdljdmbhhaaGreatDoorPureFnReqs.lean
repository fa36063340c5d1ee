import Derived.Test.YtaajhdljdmbhhaaGreatDoorGFnReqsx21
import Derived.Test.YtaajhdljdmbhhaaGreatDoorBase
import Derived.Lib.IndexMore
import Derived.Lib.Index
import Derived.Lib.SplitLaws
import Derived.Lib.IndexBytes
import Derived.Lib.ItoaNum
import Derived.Lib.AtoiTie
import Derived.Lib.Bytealg
import Derived.Lib.SlTrimSet
namespace Go.Proofs.YtaajhdljdmbhhaaGreatDoor.Pure
open Go.RowKit Go.Proofs.YtaajhdljdmbhhaaGreatDoor.GFnReqs Go.Proofs.YtaajhdljdmbhhaaGreatDoor.Base Go.Proofs.YtaajhdljdmbhhaaGreatDoorW.PrintWords Go.Proofs.YtaajhdljdmbhhaaGreatDoorW.PrintLast
set_option linter.unusedVariables false
set_option linter.unusedSimpArgs false


abbrev BA := ByteArray
def Z1 (c : Int) : Bool := decide (32 ≤ c) && decide (c ≤ 126)
def Zbo (c : Int) : Bool := decide (97 ≤ c) && decide (c ≤ 122)
def ZK (c : Int) : Bool := decide (48 ≤ c) && decide (c ≤ 57)
def ZH (c : Int) : Bool := decide (65 ≤ c) && decide (c ≤ 90)
theorem ZE (c a b : Int) : spec_l1In.f c a b = some (decide (a ≤ c) && decide (c ≤ b)) := by
 unfold spec_l1In.f; split <;> simp [*] <;> omega
theorem Za4 (c : Int) (h : wrap64 c = c) : spec_l1Digit.f c = some (ZK c) := by
 unfold spec_l1Digit.f; rw [h, ZE]; rfl
theorem Zb5 (c : Int) : impl_isDigit.f c = some (ZK c) := by
 unfold impl_isDigit.f ZK; split <;> simp [*] <;> omega
def Zad (c : Int) : Int := if ZK c = true then c - 48 else if 97 ≤ c ∧ c ≤ 102 then c - 87 else if 65 ≤ c ∧ c ≤ 70 then c - 55 else -1
theorem Za5 (c : Int) : -1 ≤ Zad c ∧ Zad c < 16 := by
 unfold Zad ZK
 split
 ·rename_i h; simp at h; omega
 ·split
  ·omega
  ·split <;> omega
theorem Zd4 (c : Int) (h0 : 0 ≤ c) (h1 : c < 256) : Ev (fun k => impl_digitOf.f k c) (Zad c) := by
 have H : ∀ k, impl_digitOf.f (k + 1) c = some (Zad c) := by
  intro k
  simp only [impl_digitOf.f, Zb5, Option.bind_some, impl_digitOf.j0, Zad]
  by_cases a1 : 48 ≤ c <;> by_cases a2 : c ≤ 57 <;> by_cases a3 : 97 ≤ c <;> by_cases a4 : c ≤ 102 <;> by_cases a5 : 65 ≤ c <;> by_cases a6 : c ≤ 70
  all_goals first | (exfalso; omega) | (simp [ZK, a1, a2, a3, a4, a5, a6, ge_iff_le]; done) | (simp [ZK, a1, a2, a3, a4, a5, a6, ge_iff_le]; omega)
 exact Ev.step H (Ev.now _)
theorem Zd5 (c : Int) (h0 : 0 ≤ c) (h1 : c < 256) : spec_l1HexOf.f c = some (Zad c) := by
 have hw : wrap64 c = c := wrap_id (by omega) (by omega)
 simp only [spec_l1HexOf.f, Za4 c hw, Option.bind_some, hw, ZE, Zad]
 by_cases q : ZK c = true
 ·rw [if_pos q, if_pos q, wrap_id (by omega) (by omega)]
 ·rw [if_neg q, if_neg q]
  by_cases q1 : 97 ≤ c ∧ c ≤ 102
  ·rw [if_pos (by simpa using q1), if_pos q1, wrap_id (x := c - 97) (by omega) (by omega), wrap_id (by omega) (by omega)]; congr 1; omega
  ·rw [if_neg (by simpa using q1), if_neg q1]
   by_cases q2 : 65 ≤ c ∧ c ≤ 70
   ·rw [if_pos (by simpa using q2), if_pos q2, wrap_id (x := c - 65) (by omega) (by omega), wrap_id (by omega) (by omega)]; congr 1; omega
   ·rw [if_neg (by simpa using q2), if_neg q2]
def phL : Nat → Int → List Int → Int × Bool
 | i, n, [] => (n, decide (i ≠ 0))
 | i, n, c :: r => if Zad c < 0 then (0, false) else if i ≥ 4 then (0, false) else phL (i + 1) (n * 16 + Zad c) r
def ZaB (s : BA) : Int × Bool := phL 0 0 (bytesOf s)
theorem Zc8 {i : Nat} (h : i ≤ 4) : (16 : Int) ^ i ≤ 65536 := by
 rcases i with _ | _ | _ | _ | _ | i
 all_goals first | omega | decide
theorem ZbR (s : BA) (hs : s.size ≤ 140737488351232) : Ev (fun k => impl_ParseHex.f k s) (ZaB s) := by
 refine str_loop_st s (fun i n k => impl_ParseHex.l0 k s n (i : Int)) phL (fun i n r => i ≤ 4 ∧ 0 ≤ n ∧ n < 16 ^ i ∧ i + r.length = s.size) ?_ ?_ hs 0 0 ⟨by omega, by omega, by simp, by simp [bytesOf_length]⟩
 ·intro i n ⟨_, _, _, hl⟩ hi
  apply ev_succ; simp only [impl_ParseHex.l0, if_neg (show ¬ (i : Int) < s.size by omega)]
  have : (s.toList != ([] : List UInt8)) = decide (i ≠ 0) := by
   rw [Lib.toList_data]
   have h2 := data_length s
   simp at hl
   rw [Bool.eq_iff_iff]
   simp only [bne_iff_ne, ne_eq, decide_eq_true_eq]
   rw [← List.length_eq_zero_iff, h2, hl]
  rw [this]; exact Ev.now _
 ·intro i n c r ⟨h4, h0, hn, hl⟩ h hb hi hw hw1 ih
  have hc := bytesOf_range s c (List.mem_of_mem_drop (by rw [h]; simp : c ∈ (bytesOf s).drop i))
  have hd := Za5 c
  have h16 := Zc8 h4
  apply ev_succ
  simp only [impl_ParseHex.l0, if_pos (show (i : Int) < s.size by omega), if_pos (show (0 : Int) ≤ i by omega), hb, hw1]
  refine Ev.bind (Zd4 c hc.1 hc.2) (ev_ite (fun q => ?_) (fun q => ev_ite (fun q1 => ?_) (fun q1 => ?_)))
  ·simpa [phL, q] using Ev.now (0, false)
  ·have : i ≥ 4 := by omega
   simpa [phL, q, this] using Ev.now (0, false)
  ·have h5 : ¬ i ≥ 4 := by omega
   rw [wrap_id (x := 16 * n) (by omega) (by omega), wrap_id (by omega) (by omega)]
   have := ih (n * 16 + Zad c) ⟨by omega, by omega, by rw [Int.pow_succ]; omega, by simp at hl ⊢; omega⟩
   simp only [phL, if_neg q, if_neg h5]
   rw [show 16 * n + Zad c = n * 16 + Zad c by omega]; exact this
theorem ZaC (s : BA) (hs : s.size ≤ 140737488351232) : Ev (fun k => spec_ParseHex.f k s) (ZaB s) := by
 refine str_loop_st s (fun i n k => spec_ParseHex.l0 k s n (i : Int)) phL (fun i n r => i ≤ 4 ∧ 0 ≤ n ∧ n < 16 ^ i ∧ i + r.length = s.size) ?_ ?_ hs 0 0 ⟨by omega, by omega, by simp, by simp [bytesOf_length]⟩
 ·intro i n ⟨h4, h0, hn, hl⟩ hi
  simp at hl
  apply ev_succ; simp only [spec_ParseHex.l0, if_neg (show ¬ (i : Int) < s.size by omega)]
  apply ev_succ; simp only [spec_ParseHex.j1, if_neg (show ¬ false = true by simp), ZE, Option.bind_some, phL]
  by_cases q : i = 0
  ·subst q
   have h1 : s.size = 0 := by omega
   have h2 : n = 0 := by simp at hn; omega
   subst h2
   simpa [h1] using Ev.now ((0 : Int), false)
  ·simp only [decide_eq_true (show (1 : Int) ≤ s.size by omega), decide_eq_true (show (s.size : Int) ≤ 4 by omega), Bool.and_self, if_true]
   simpa [q] using Ev.now (n, true)
 ·intro i n c r ⟨h4, h0, hn, hl⟩ h hb hi hw hw1 ih
  have hc := bytesOf_range s c (List.mem_of_mem_drop (by rw [h]; simp : c ∈ (bytesOf s).drop i))
  have hd := Za5 c
  have h16 := Zc8 h4
  apply ev_succ
  simp only [spec_ParseHex.l0, if_pos (show (i : Int) < s.size by omega)]
  apply ev_succ
  simp only [spec_ParseHex.j1, decide_eq_true (show (i : Int) < 5 by omega), if_true, if_pos (show (i : Int) < s.size by omega), if_pos (show (0 : Int) ≤ i by omega), hb, hw1, Zd5 c hc.1 hc.2, Option.bind_some]
  refine ev_ite (fun q => ?_) (fun q => ?_)
  ·simpa [phL, q] using Ev.now ((0 : Int), false)
  ·rw [wrap_id (x := n * 16) (by omega) (by omega), wrap_id (by omega) (by omega)]
   by_cases q1 : i ≥ 4
   ·simp only [phL, if_neg q, if_pos q1]
    have e4 : i = 4 := by omega
    subst e4
    apply ev_succ
    simp at hl
    have h5 : (s.size : Int) ≥ 5 := by omega
    by_cases q2 : ((4 + 1 : Nat) : Int) < s.size
    ·simp only [spec_ParseHex.l0, if_pos q2]
     apply ev_succ
     simp only [spec_ParseHex.j1, decide_eq_false (show ¬ ((4 + 1 : Nat) : Int) < 5 by decide), if_neg (show ¬ false = true by simp), ZE, Option.bind_some]
     simpa [decide_eq_false (show ¬ (s.size : Int) ≤ 4 by omega)] using Ev.now ((0 : Int), false)
    ·simp only [spec_ParseHex.l0, if_neg q2]
     apply ev_succ
     simp only [spec_ParseHex.j1, if_neg (show ¬ false = true by simp), ZE, Option.bind_some]
     simpa [decide_eq_false (show ¬ (s.size : Int) ≤ 4 by omega)] using Ev.now ((0 : Int), false)
   ·simp only [phL, if_neg q, if_neg q1]
    exact ih (n * 16 + Zad c) ⟨by omega, by omega, by rw [Int.pow_succ]; omega, by simp at hl ⊢; omega⟩
theorem Zc9 (c a b : Int) : impl_in.f c a b = some (decide (a ≤ c) && decide (c ≤ b)) := by
 unfold impl_in.f; split <;> simp [*] <;> omega
theorem Za6 {a : Int} (h0 : 0 ≤ a) (h1 : a < 256) (n : Nat) (hn : n < 256) : (UInt8.ofNat n == UInt8.ofNat a.toNat) = decide (a = n) := by
 rw [Bool.eq_iff_iff, beq_iff_eq, decide_eq_true_iff]
 constructor
 ·intro h
  have := congrArg UInt8.toNat h
  simp only [UInt8.toNat_ofNat'] at this
  omega
 ·rintro rfl; simp
theorem Zb6 (r : List Int) : ((strOfNums r).toList = ([] : List UInt8)) ↔ r = [] := by
 rw [Lib.toList_data, strOfNums_data]; simp
theorem Zaj (r : List Int) (hr : ∀ x ∈ r, 0 ≤ x ∧ x < 256) : bytesOf (strOfNums r) = r := bytesOf_strOfNums r hr
theorem Zfp {r : List Int} {a : Int} {t : List Int} (hr : ∀ x ∈ r, 0 ≤ x ∧ x < 256) (h : r = a :: t) : bt (strOfNums r) 0 = a :=
 (bt_drop (s := strOfNums r) (i := 0) (c := a) (r := t) (by rw [Zaj r hr, h]; rfl)).1
theorem Zde (r : List Int) (hr : ∀ x ∈ r, 0 ≤ x ∧ x < 256) (i j : Nat) : (strOfNums r).extract i j = strOfNums ((r.take j).drop i) := by
 apply bytesOf_inj
 rw [bytesOf_extract, Zaj r hr, Zaj _ (fun x hx => hr x (List.mem_of_mem_take (List.mem_of_mem_drop hx)))]
theorem ZbH (r : List Int) (hr : ∀ x ∈ r, 0 ≤ x ∧ x < 256) (i : Nat) : (strOfNums r).extract i (strOfNums r).size = strOfNums (r.drop i) := by
 rw [Zde r hr, strOfNums_size, List.take_length]
def Zn : List Int → Int × List Int
 | [] => (1, [])
 | a :: t => if a = 13 then (match t with | [] => (1, []) | b :: u => if b = 10 then (0, u) else (400, b :: u)) else (400, a :: t)
theorem ZaK {r : List Int} (h : (Zn r).1 = 0) : r = 13 :: 10 :: (Zn r).2 := by
 match r, h with
 | [], h => simp [Zn] at h
 | [a], h => by_cases q : a = 13 <;> simp [Zn, q] at h
 | a :: b :: u, h =>
  by_cases q : a = 13
  ·by_cases q1 : b = 10
   ·simp [Zn, q, q1]
   ·simp [Zn, q, q1] at h
  ·simp [Zn, q] at h
theorem Zdf (i : Int) (s : BA) (c : Int) (hc : c ≠ 0) : Ev (fun k => impl_chunks_end.l0 k i s c) (s, c) := by
 have hj : Ev (fun k => impl_chunks_end.j1 k i false s c) (s, c) := by
  apply ev_succ; simp only [impl_chunks_end.j1, Bool.false_eq_true, if_false]; exact Ev.now _
 apply ev_succ
 simp only [impl_chunks_end.l0, beq_eq_false_iff_ne.2 hc]
 exact ev_ite (fun _ => hj) (fun _ => hj)
theorem Ze3 (s : BA) (c : Int) : Ev (fun k => impl_chunks_end.l0 k 2 s c) (s, c) := by
 apply ev_succ
 simp only [impl_chunks_end.l0, if_neg (show ¬ (2 : Int) < 2 by omega)]
 apply ev_succ; simp only [impl_chunks_end.j1, Bool.false_eq_true, if_false]; exact Ev.now _
theorem Zdg (i b : Int) (hi0 : 0 ≤ i) (hi : i < 2) (hb : bt (⟨#[13, 10]⟩ : BA) i = b) (r : List Int) (hr : ∀ x ∈ r, 0 ≤ x ∧ x < 256) (X : BA × Int)
  (h0 : r = [] → X = (strOfNums r, 1)) (h1 : ∀ a t, r = a :: t → a ≠ b → X = (strOfNums r, 400))
  (h2 : ∀ t, r = b :: t → Ev (fun k => impl_chunks_end.l0 k (i + 1) (strOfNums t) 0) X) : Ev (fun k => impl_chunks_end.l0 k i (strOfNums r) 0) X := by
 have hw : wrap64 (i + 1) = i + 1 := wrap_id (by omega) (by omega)
 apply ev_succ
 simp only [impl_chunks_end.l0, if_pos hi, beq_self_eq_true]
 apply ev_succ
 simp only [impl_chunks_end.j1, if_true, hw, hb, if_pos hi0, if_pos hi]
 refine ev_ite (fun q => ?_) (fun q => ?_)
 ·rw [Zb6] at q
  rw [h0 q]; exact Zdf _ _ _ (by omega)
 ·rw [Zb6] at q
  match hm : r, q with
  | a :: t, _ =>
   have hs : (strOfNums (a :: t)).size = t.length + 1 := by rw [strOfNums_size]; rfl
   simp only [hs, if_pos (show (0 : Int) < ((t.length + 1 : Nat) : Int) by omega), Zfp hr rfl, if_pos (show (1 : Int) ≤ ((t.length + 1 : Nat) : Int) by omega)]
   refine ev_ite (fun q1 => ?_) (fun q1 => ?_)
   ·subst q1
    have e := ZbH (a :: t) hr 1
    rw [hs] at e
    rw [e]
    exact h2 t rfl
   ·rw [h1 a t rfl q1]; exact Zdf _ _ _ (by omega)
theorem Zdh (r : List Int) (hr : ∀ x ∈ r, 0 ≤ x ∧ x < 256) : Ev (fun k => impl_chunks_end.f k (strOfNums r) 0) (strOfNums (Zn r).2, (Zn r).1) := by
 unfold impl_chunks_end.f
 refine Zdg 0 13 (by omega) (by omega) rfl r hr _ (fun h => by rw [h]; rfl) (fun a t h q => by rw [h]; simp [Zn, q]) (fun t h => ?_)
 have ht : ∀ x ∈ t, 0 ≤ x ∧ x < 256 := fun x hx => hr x (by rw [h]; simp [hx])
 refine Zdg 1 10 (by omega) (by omega) rfl t ht _ (fun h1 => by rw [h, h1]; rfl) (fun a u h1 q => by rw [h, h1]; simp [Zn, q]) (fun u h1 => ?_)
 rw [h, h1]
 exact Ze3 _ _
theorem ZaT {l : List Int} {p : Nat} {a : Int} {t : List Int} (h : l.drop p = a :: t) : rd l (p : Int) = a ∧ p < l.length ∧ l.drop (p + 1) = t := by
 obtain ⟨h1, h2, h3, _⟩ := l_drop h
 exact ⟨h1 _, h2, h3⟩
theorem ZaD {l : List Int} {p : Nat} (h : l.drop p = []) : l.length ≤ p := List.drop_eq_nil_iff.1 h
theorem ZeH (l : List Int) (p : Nat) (hl : l.length ≤ 9223372036854775000) : spec_l4End.f l (p : Int) = some (Zn (l.drop p)).1 := by
 unfold spec_l4End.f
 match hd : l.drop p with
 | [] =>
  have := ZaD hd
  rw [if_pos (by omega)]; rfl
 | a :: t =>
  obtain ⟨h1, h2, h3⟩ := ZaT hd
  have hw : wrap64 ((p : Int) + 1) = ((p + 1 : Nat) : Int) := by rw [wrap_id (by omega) (by omega)]; rfl
  rw [if_neg (by omega), if_pos (by omega), if_pos (by omega), h1, hw]
  by_cases q : a = 13
  ·rw [if_pos q]
   match hd2 : t with
   | [] =>
    have := ZaD h3
    rw [if_pos (by omega)]; simp [Zn, q]
   | b :: u =>
    obtain ⟨g1, g2, g3⟩ := ZaT h3
    rw [if_neg (by omega), if_pos (by omega), if_pos (by omega), g1]
    by_cases q1 : b = 10
    ·rw [if_pos q1]; simp [Zn, q, q1]
    ·rw [if_neg q1]; simp [Zn, q, q1]
  ·rw [if_neg q]; simp [Zn, q]
def tw (r : List Int) : List Int := r.takeWhile fun c => decide (c ≠ 13)
def dw (r : List Int) : List Int := r.dropWhile fun c => decide (c ≠ 13)
theorem ZaL (r : List Int) : tw r ++ dw r = r := List.takeWhile_append_dropWhile
theorem ZdT {r : List Int} {a : Int} {u : List Int} (h : dw r = a :: u) : a = 13 := by
 have := List.head_dropWhile_not (p := fun c : Int => decide (c ≠ 13)) (l := r) (by unfold dw at h; rw [h]; simp)
 unfold dw at h
 simp only [h, List.head_cons] at this
 simpa using this
theorem ZdU : ∀ (r : List Int), (∀ x ∈ r, 0 ≤ x ∧ x < 256) → Lib.index (r.map fun n => UInt8.ofNat n.toNat) [13] = if dw r = [] then -1 else ((tw r).length : Int)
 | [], _ => rfl
 | c :: r, hr => by
  have hc := hr c (by simp)
  have ih := ZdU r (fun x hx => hr x (by simp [hx]))
  have e := Za6 hc.1 hc.2 13 (by omega)
  rw [List.map_cons, Lib.index]
  have c13 : (13 : UInt8) = UInt8.ofNat 13 := rfl
  simp only [List.isPrefixOf, Bool.and_true]
  rw [c13, e]
  by_cases q : c = ((13 : Nat) : Int)
  ·have q' : c = 13 := q
   rw [decide_eq_true q, if_pos rfl, q']
   simp [dw, tw]
  ·have q' : c ≠ 13 := q
   rw [decide_eq_false q, if_neg (by simp), ← c13, ih]
   have e1 : dw (c :: r) = dw r := by simp [dw, q']
   have e2 : tw (c :: r) = c :: tw r := by simp [tw, q']
   rw [e1, e2]
   by_cases q1 : dw r = []
   ·simp [q1]
   ·rw [if_neg q1, if_neg q1]
    rw [if_neg (by simp only [beq_iff_eq]; omega)]
    simp
theorem Zfq (r : List Int) (hr : ∀ x ∈ r, 0 ≤ x ∧ x < 256) (hl : r.length < 4294967281) : ∃ x, strings_Cut.f (strOfNums r) (⟨#[13]⟩ : BA) = some (strOfNums (tw r), x, decide (dw r ≠ [])) := by
 unfold strings_Cut.f
 rw [if_pos (by rw [strOfNums_size]; exact hl)]
 refine ⟨⟨(Lib.cut (strOfNums r).data.toList [13]).2.1.toArray⟩, ?_⟩
 congr 1
 have hi := ZdU r hr
 have hs : (strOfNums r).data.toList = r.map fun n => UInt8.ofNat n.toNat := by rw [strOfNums_data]
 have h13 : ((⟨#[13]⟩ : BA).data.toList) = [13] := rfl
 refine Prod.ext ?_ (Prod.ext rfl ?_)
 ·show (⟨(Lib.cut _ _).1.toArray⟩ : BA) = _
  apply ByteArray.ext
  rw [hs, h13]
  unfold Lib.cut
  rw [hi]
  by_cases q : dw r = []
  ·have ht : tw r = r := by have := ZaL r; rw [q, List.append_nil] at this; exact this
   rw [if_pos q, if_neg (by omega), ht]
   apply Array.toList_inj.mp
   rw [strOfNums_data]
  ·rw [if_neg q, if_pos (by omega)]
   apply Array.toList_inj.mp
   rw [strOfNums_data]
   simp only [Int.toNat_natCast]
   rw [← List.map_take]
   congr 1
   have := @List.take_left _ (tw r) (dw r)
   rw [ZaL] at this
   exact this
 ·show (Lib.cut _ _).2.2 = _
  rw [hs, h13]
  unfold Lib.cut
  rw [hi]
  by_cases q : dw r = []
  ·rw [if_pos q, if_neg (by omega)]; simp [q]
  ·rw [if_neg q, if_pos (by omega)]; simp [q]
def Zb (r : List Int) : Int × List Int × Int :=
 if dw r = [] then ((phL 0 0 (tw r)).1, r, if tw r = [] ∨ (phL 0 0 (tw r)).2 = true then 1 else 400)
 else if (phL 0 0 (tw r)).2 = true then ((phL 0 0 (tw r)).1, (Zn (dw r)).2, (Zn (dw r)).1) else ((phL 0 0 (tw r)).1, r, 400)
theorem ZeI {r : List Int} (hr : ∀ x ∈ r, 0 ≤ x ∧ x < 256) : ∀ x ∈ tw r, 0 ≤ x ∧ x < 256 := fun x hx => hr x (by rw [← ZaL r]; exact List.mem_append_left _ hx)
theorem Zdi {r : List Int} (hr : ∀ x ∈ r, 0 ≤ x ∧ x < 256) : ∀ x ∈ dw r, 0 ≤ x ∧ x < 256 := fun x hx => hr x (by rw [← ZaL r]; exact List.mem_append_right _ hx)
theorem Zb7 (r : List Int) : (tw r).length + (dw r).length = r.length := by rw [← List.length_append, ZaL]
theorem Zda (r : List Int) : r.drop (tw r).length = dw r := by
 have := @List.drop_left _ (tw r) (dw r)
 rw [ZaL] at this
 exact this
theorem ZdV (r : List Int) (hr : ∀ x ∈ r, 0 ≤ x ∧ x < 256) (hl : r.length ≤ 1048576) : Ev (fun k => impl_chunks_size.f k (strOfNums r) 0) ((Zb r).1, strOfNums (Zb r).2.1, (Zb r).2.2) := by
 obtain ⟨x, hx⟩ := Zfq r hr (by omega)
 have htl := Zb7 r
 unfold impl_chunks_size.f
 simp only [hx, Option.bind_some]
 have hp := ZbR (strOfNums (tw r)) (by rw [strOfNums_size]; omega)
 unfold ZaB at hp
 rw [Zaj _ (ZeI hr)] at hp
 refine Ev.bind hp ?_
 have hts : (strOfNums (tw r)).size = (tw r).length := strOfNums_size _
 have hrs : (strOfNums r).size = r.length := strOfNums_size _
 by_cases q : dw r = []
 ·simp only [q, ne_eq, not_true_eq_false, decide_false, Bool.false_eq_true, if_false]
  apply ev_succ
  simp only [impl_chunks_size.j0, Bool.false_eq_true, if_false]
  unfold Zb
  rw [if_pos q]
  refine ev_iteB (fun q1 => ?_) (fun q1 => ?_)
  ·have q1' : tw r = [] := by
    rw [← Zb6]; simpa using q1
   rw [if_pos (.inl q1')]; exact Ev.now _
  ·have q1' : tw r ≠ [] := by
    rw [ne_eq, ← Zb6]; simpa using q1
   refine ev_iteB (fun q2 => ?_) (fun q2 => ?_)
   ·rw [if_pos (.inr q2)]; exact Ev.now _
   ·rw [if_neg (by simp [q1', q2])]; exact Ev.now _
 ·simp only [ne_eq, q, not_false_eq_true, decide_true, if_true]
  apply ev_succ
  simp only [impl_chunks_size.j0, Bool.false_eq_true, if_false, if_true]
  unfold Zb
  rw [if_neg q]
  refine ev_iteB (fun q2 => ?_) (fun q2 => ?_)
  ·simp only [hts, hrs, if_pos (show (0 : Int) ≤ ((tw r).length : Int) by omega), if_pos (show ((tw r).length : Int) ≤ (r.length : Int) by omega)]
   have e := ZbH r hr (tw r).length
   rw [hrs, Zda] at e
   rw [e, if_pos q2]
   exact Ev.bind (Zdh (dw r) (Zdi hr)) (Ev.now _)
  ·rw [if_neg (by simp [q2])]; exact Ev.now _
theorem Zdj : ∀ (t : List Int) (i : Nat) (n : Int), i ≤ 4 → 5 ≤ i + t.length → (phL i n t).2 = false
 | [], i, n, h, h5 => by simp at h5; omega
 | c :: r, i, n, h, h5 => by
  unfold phL
  split
  ·rfl
  ·split
   ·rfl
   ·exact Zdj r (i + 1) _ (by omega) (by simp at h5; omega)
theorem ZcJ : ∀ (t : List Int) (i : Nat) (n : Int), i ≤ 4 → 0 ≤ n → n < 16 ^ i → 0 ≤ (phL i n t).1 ∧ (phL i n t).1 < 65536
 | [], i, n, h, h0, h1 => by have := Zc8 h; simp only [phL]; omega
 | c :: r, i, n, h, h0, h1 => by
  have hd := Za5 c
  have := Zc8 h
  unfold phL
  split
  ·simp
  ·split
   ·simp
   ·rename_i q q4
    exact ZcJ r (i + 1) _ (by omega) (by omega) (by rw [Int.pow_succ]; omega)
theorem Zdk (l : List Int) (hl : l.length ≤ 1048576) (hr : ∀ x ∈ l, 0 ≤ x ∧ x < 256) (p m : Nat) (hm : m ≤ 5) (X : Int × Int × Int) (hpm : p + m ≤ l.length)
  (h0 : l.drop (p + m + 1) = [] → X = (0, 0, 1)) (h1 : ∀ b u, l.drop (p + m + 1) = b :: u → b ≠ 10 → X = (0, 0, 400)) (h2 : ∀ u, l.drop (p + m + 1) = 10 :: u → X = ((phL 0 0 ((l.take (p + m)).drop p)).1, ((p + m + 2 : Nat) : Int), 0)) :
  Ev (fun k => spec_l4Size.j3 k l (p : Int) ((p + m : Nat) : Int)) X := by
 have hw : wrap64 (((p + m : Nat) : Int) + 1) = ((p + m + 1 : Nat) : Int) := by rw [wrap_id (by omega) (by omega)]; rfl
 have hw2 : wrap64 (((p + m : Nat) : Int) + 2) = ((p + m + 2 : Nat) : Int) := by rw [wrap_id (by omega) (by omega)]; rfl
 apply ev_succ
 simp only [spec_l4Size.j3, hw, hw2]
 match hd : l.drop (p + m + 1) with
 | [] =>
  have := ZaD hd
  rw [h0 hd]
  refine ev_ite (fun _ => Ev.now _) (fun q => absurd q (by omega))
 | b :: u =>
  obtain ⟨g1, g2, g3⟩ := ZaT hd
  simp only [if_neg (show ¬ ((p + m + 1 : Nat) : Int) ≥ (l.length : Int) by omega), if_pos (show (0 : Int) ≤ ((p + m + 1 : Nat) : Int) by omega), if_pos (show ((p + m + 1 : Nat) : Int) < (l.length : Int) by omega), g1]
  refine ev_ite (fun q => ?_) (fun q => ?_)
  ·subst q
   rw [h2 u hd]
   simp only [if_pos (show (0 : Int) ≤ (p : Int) by omega), if_pos (show (p : Int) ≤ ((p + m : Nat) : Int) by omega), if_pos (show ((p + m : Nat) : Int) ≤ (l.length : Int) by omega), Int.toNat_natCast]
   have hp := ZaC (strOfNums ((l.take (p + m)).drop p)) (by rw [strOfNums_size]; simp; omega)
   unfold ZaB at hp
   rw [Zaj _ (fun x hx => hr x (List.mem_of_mem_take (List.mem_of_mem_drop hx)))] at hp
   exact Ev.bind hp (Ev.now _)
  ·rw [h1 b u hd q]; exact Ev.now _
def ZT (p : Nat) (r : List Int) : Int × Int × Int := if (Zb r).2.2 = 0 then ((Zb r).1, ((p + (tw r).length + 2 : Nat) : Int), 0) else (0, 0, (Zb r).2.2)
theorem Ze4 (r : List Int) : r.take (tw r).length = tw r := by
 have := @List.take_left _ (tw r) (dw r)
 rw [ZaL] at this
 exact this
theorem Zdl (l : List Int) (hl : l.length ≤ 1048576) (hr : ∀ x ∈ l, 0 ≤ x ∧ x < 256) (p m : Nat) (hm : m = min 5 (tw (l.drop p)).length) (hp : p ≤ l.length) :
  Ev (fun k => spec_l4Size.j1 k l (p : Int) ((p + m : Nat) : Int)) (ZT p (l.drop p)) := by
 have hw5 : wrap64 ((p : Int) + 5) = ((p + 5 : Nat) : Int) := by rw [wrap_id (by omega) (by omega)]; rfl
 have htl := Zb7 (l.drop p)
 rw [List.length_drop] at htl
 have hrr : ∀ x ∈ l.drop p, 0 ≤ x ∧ x < 256 := fun x hx => hr x (List.mem_of_mem_drop hx)
 apply ev_succ
 simp only [spec_l4Size.j1, hw5]
 refine ev_ite (fun q => ?_) (fun q => ?_)
 ·have hlong := Zdj (tw (l.drop p)) 0 0 (by omega) (by omega)
  have hne : tw (l.drop p) ≠ [] := by intro e; rw [e] at hm; simp at hm; omega
  have : ZT p (l.drop p) = (0, 0, 400) := by
   unfold ZT Zb
   by_cases qd : dw (l.drop p) = []
   ·rw [if_pos qd]; simp [hlong, hne]
   ·rw [if_neg qd]; simp [hlong]
  rw [this]; exact Ev.now _
 ·have hm' : m = (tw (l.drop p)).length := by omega
  have e1 : (l.take (p + m)).drop p = tw (l.drop p) := by
   rw [List.drop_take, show p + m - p = m by omega, hm', Ze4]
  have e2 : l.drop (p + m) = dw (l.drop p) := by
   rw [← List.drop_drop, hm', Zda]
  have hph := ZaC (strOfNums ((l.take (p + m)).drop p)) (by rw [strOfNums_size, e1]; omega)
  unfold ZaB at hph
  rw [Zaj _ (fun x hx => hr x (List.mem_of_mem_take (List.mem_of_mem_drop hx))), e1] at hph
  have e3 : l.drop (p + m + 1) = (dw (l.drop p)).drop 1 := by rw [← e2, List.drop_drop]
  have j3 := Zdk l hl hr p m (by omega)
  rw [e1, e3] at j3
  have j2 : ∀ X, ((phL 0 0 (tw (l.drop p))).2 = true → Ev (fun k => spec_l4Size.j3 k l (p : Int) ((p + m : Nat) : Int)) X) → ((phL 0 0 (tw (l.drop p))).2 = false → X = (0, 0, 400)) → Ev (fun k => spec_l4Size.j2 k l (p : Int) ((p + m : Nat) : Int) true) X := by
   intro X hy hn
   apply ev_succ
   simp only [spec_l4Size.j2, if_true, if_pos (show (0 : Int) ≤ (p : Int) by omega), if_pos (show (p : Int) ≤ ((p + m : Nat) : Int) by omega), if_pos (show ((p + m : Nat) : Int) ≤ (l.length : Int) by omega), Int.toNat_natCast, e1]
   exact Ev.bind hph (ev_iteB hy (fun h => by rw [hn h]; exact Ev.now _))
  by_cases qd : dw (l.drop p) = []
  ·have hend : p + m = l.length := by rw [qd] at htl; simp at htl; omega
   simp only [if_neg (show ¬ ((p + m : Nat) : Int) < (l.length : Int) by omega)]
   rw [qd] at j3
   have hX : ∀ X, X = (0, 0, 1) → Ev (fun k => spec_l4Size.j3 k l (p : Int) ((p + m : Nat) : Int)) X := fun X hX => j3 X (by omega) (fun _ => hX) (fun b u h => by simp at h) (fun u h => by simp at h)
   by_cases q0 : tw (l.drop p) = []
   ·have hm0 : m = 0 := by rw [hm', q0]; rfl
    simp only [decide_eq_false (show ¬ ((p + m : Nat) : Int) > (p : Int) by omega)]
    apply ev_succ
    simp only [spec_l4Size.j2, Bool.false_eq_true, if_false]
    exact hX _ (by unfold ZT Zb; rw [if_pos qd]; simp [q0])
   ·have hm0 : 0 < m := by rw [hm']; exact List.length_pos_iff.2 q0
    simp only [decide_eq_true (show ((p + m : Nat) : Int) > (p : Int) by omega)]
    refine j2 _ (fun h => hX _ ?_) (fun h => ?_)
    ·unfold ZT Zb; rw [if_pos qd]; simp [h]
    ·unfold ZT Zb; rw [if_pos qd]; simp [h, q0]
  ·match hdw : dw (l.drop p), qd with
   | a :: u, _ =>
    have ha := ZdT hdw
    subst ha
    rw [hdw] at htl j3
    simp at htl
    simp only [if_pos (show ((p + m : Nat) : Int) < (l.length : Int) by omega)]
    have hne : dw (l.drop p) ≠ [] := by rw [hdw]; simp
    refine j2 _ (fun h => ?_) (fun h => ?_)
    ·refine j3 _ (by omega) (fun hu => ?_) (fun b v hu q1 => ?_) (fun v hu => ?_)
     ·simp at hu
      unfold ZT Zb; rw [if_neg hne, if_pos h, hdw, hu]; simp [Zn]
     ·simp at hu
      unfold ZT Zb; rw [if_neg hne, if_pos h, hdw, hu]; simp [Zn, q1]
     ·simp at hu
      unfold ZT Zb; rw [if_neg hne, if_pos h, hdw, hu, hm']; simp [Zn]
    ·unfold ZT Zb; rw [if_neg hne]; simp [h]
theorem Zfr {r : List Int} {a : Int} (h : a ∈ tw r) : a ≠ 13 := by
 have h1 := List.all_eq_true.1 (List.all_takeWhile (p := fun c : Int => decide (c ≠ 13)) (l := r)) a h
 simpa using h1
theorem Zbp (l : List Int) (p j : Nat) (X : Int × Int × Int) (hl : l.length ≤ 1048576) (hp : p ≤ l.length) (hj5 : j ≤ 5)
  (h0 : l.drop (p + j) = [] → Ev (fun k => spec_l4Size.j1 k l (p : Int) ((p + j : Nat) : Int)) X) (h1 : ∀ u, l.drop (p + j) = 13 :: u → Ev (fun k => spec_l4Size.j1 k l (p : Int) ((p + j : Nat) : Int)) X) (h5 : j = 5 → Ev (fun k => spec_l4Size.j1 k l (p : Int) ((p + j : Nat) : Int)) X)
  (h2 : ∀ a u, l.drop (p + j) = a :: u → a ≠ 13 → j < 5 → Ev (fun k => spec_l4Size.l0 k l (p : Int) ((p + (j + 1) : Nat) : Int)) X) :
  Ev (fun k => spec_l4Size.l0 k l (p : Int) ((p + j : Nat) : Int)) X := by
 have hw5 : wrap64 ((p : Int) + 5) = ((p + 5 : Nat) : Int) := by rw [wrap_id (by omega) (by omega)]; rfl
 apply ev_succ
 simp only [spec_l4Size.l0, hw5]
 refine ev_ite (fun q1 => ev_ite (fun q2 => ?_) (fun q2 => h5 (by omega))) (fun q1 => h0 (List.drop_eq_nil_iff.2 (by omega)))
 have q3 : j < 5 := by omega
 have q4 : (0 : Int) ≤ ((p + j : Nat) : Int) := by omega
 have hw1 : wrap64 (((p + j : Nat) : Int) + 1) = ((p + (j + 1) : Nat) : Int) := by rw [wrap_id (by omega) (by omega)]; omega
 have q5 : ¬ l.length ≤ p + j := by omega
 simp only [if_pos q4, hw1]
 match hd : l.drop (p + j) with
 | [] => exact absurd (ZaD hd) q5
 | a :: u =>
  have g1 := (ZaT hd).1
  simp only [g1]
  refine ev_ite (fun q => ?_) (fun q => h2 a u hd q q3)
  exact h1 u (by rw [hd, q])
theorem Zdm (l : List Int) (hl : l.length ≤ 1048576) (hr : ∀ x ∈ l, 0 ≤ x ∧ x < 256) (p : Nat) (hp : p ≤ l.length) :
  Ev (fun k => spec_l4Size.f k l (p : Int)) (ZT p (l.drop p)) := by
 obtain ⟨m, hm⟩ : ∃ m, m = min 5 (tw (l.drop p)).length := ⟨_, rfl⟩
 have hj1 := Zdl l hl hr p m hm hp
 have h5 : m ≤ 5 := by omega
 have key : ∀ n j, j + n = m → Ev (fun k => spec_l4Size.l0 k l (p : Int) ((p + j : Nat) : Int)) (ZT p (l.drop p)) := by
  intro n
  induction n with
  | zero =>
   intro j hj
   obtain rfl : j = m := by omega
   refine Zbp l p j _ hl hp h5 (fun _ => hj1) (fun _ _ => hj1) (fun _ => hj1) (fun a u h q q5 => ?_)
   have e2 : l.drop (p + j) = dw (l.drop p) := by
    rw [← List.drop_drop, show j = (tw (l.drop p)).length by omega, Zda]
   rw [e2] at h
   exact absurd (ZdT h) q
  | succ n ih =>
   intro j hj
   have hjt : j < (tw (l.drop p)).length := by omega
   have e2 : l.drop (p + j) = (tw (l.drop p)).drop j ++ dw (l.drop p) := by
    have e := @List.drop_append_of_le_length _ (tw (l.drop p)) (dw (l.drop p)) j (by omega)
    rw [ZaL, List.drop_drop] at e
    exact e
   have hj6 : j + 1 + n = m := by omega
   have hj5 : j ≤ 5 := by omega
   have hj7 : j ≠ 5 := by omega
   match hd : (tw (l.drop p)).drop j with
   | [] => exact absurd (ZaD hd) (by omega)
   | a :: u =>
    have ha := Zfr (List.mem_of_mem_drop (by rw [hd]; simp : a ∈ (tw (l.drop p)).drop j))
    rw [hd] at e2
    refine Zbp l p j _ hl hp hj5 (fun h => ?_) (fun v h => ?_) (fun h => absurd h hj7) (fun _ _ _ _ _ => ih (j + 1) hj6)
    ·rw [e2] at h; simp at h
    ·rw [e2] at h; simp only [List.cons_append, List.cons.injEq] at h; exact absurd h.1 ha
 exact key m 0 (by omega)
theorem ZG (l : List Int) (x : BA) (n : Int) (s : BA) (c : Int) (hc : c ≠ 0) : Ev (fun k => impl_GetChunks.j1 k l x n s c) ((⟨#[]⟩ : BA), 0, c) := by
 apply ev_succ
 simp only [impl_GetChunks.j1, if_neg hc]
 exact Ev.now _
theorem Zb8 (t : List Int) : 0 ≤ (phL 0 0 t).1 ∧ (phL 0 0 t).1 < 65536 := ZcJ t 0 0 (by omega) (by omega) (by simp)
theorem ZdW (r : List Int) : (Zb r).1 = (phL 0 0 (tw r)).1 := by
 unfold Zb
 split
 ·rfl
 ·split <;> rfl
theorem Za7 {r : List Int} (h : (Zb r).2.2 = 0) : dw r = 13 :: 10 :: (Zb r).2.1 := by
 unfold Zb at h ⊢
 by_cases q : dw r = []
 ·rw [if_pos q] at h
  simp only at h
  split at h <;> omega
 ·rw [if_neg q] at h ⊢
  by_cases q1 : (phL 0 0 (tw r)).2 = true
  ·rw [if_pos q1] at h ⊢
   exact ZaK h
  ·rw [if_neg q1] at h
   simp at h
theorem Zd6 (l : List Int) (hl : l.length ≤ 1048576) (hr : ∀ x ∈ l, 0 ≤ x ∧ x < 256) (q n : Nat) (hql : q ≤ l.length) (hn' : n < 65536) (x : BA) (hx : x.size ≤ 200)
  (next : ∀ (y : BA), q + n + 2 ≤ l.length → y.size ≤ 200 → ∃ X, Ev (fun k => impl_GetChunks.l0 k l y (strOfNums (l.drop (q + n + 2))) 0) X ∧ Ev (fun k => spec_GetChunks.l0 k l ((q + n + 2 : Nat) : Int) y) X) :
  ∃ X, Ev (fun k => if ((x.size + n : Nat) : Int) > 200 then (impl_GetChunks.j1 k l x (n : Int) (strOfNums (l.drop q)) 413) else (if (n : Int) > ((l.length - q : Nat) : Int) then (impl_GetChunks.j1 k l x (n : Int) (strOfNums (l.drop q)) 1) else (if (0 : Int) ≤ (n : Int) then (if (n : Int) ≤ ((l.length - q : Nat) : Int) then (if x.size + ((strOfNums (l.drop q)).extract 0 n).size ≤ 9223372036854775807 then ((impl_chunks_end.f k ((strOfNums (l.drop q)).extract n (l.length - q)) 0).bind fun bt143 => (impl_GetChunks.j1 k l (x ++ ((strOfNums (l.drop q)).extract 0 n)) (n : Int) bt143.1 bt143.2)) else (none)) else (none)) else (none)))) X ∧
   Ev (fun k => if ((x.size + n : Nat) : Int) > 200 then (some ((⟨#[]⟩ : BA), 0, 413)) else (if (n : Int) > ((l.length - q : Nat) : Int) then (some ((⟨#[]⟩ : BA), 0, 1)) else (if (0 : Int) ≤ (q : Int) then (if (q : Int) ≤ ((q + n : Nat) : Int) then (if ((q + n : Nat) : Int) ≤ (l.length : Int) then (if x.size + (strOfNums ((l.take (q + n)).drop q)).size ≤ 9223372036854775807 then ((spec_l4End.f l ((q + n : Nat) : Int)).bind fun t122 => (if t122 = 0 then (if (n : Int) = 0 then (some (x ++ (strOfNums ((l.take (q + n)).drop q)), ((q + n + 2 : Nat) : Int), 0)) else (spec_GetChunks.l0 k l ((q + n + 2 : Nat) : Int) (x ++ (strOfNums ((l.take (q + n)).drop q))))) else (some ((⟨#[]⟩ : BA), 0, t122)))) else (none)) else (none)) else (none)) else (none)))) X := by
 by_cases q1 : x.size + n > 200
 ·have b1 : ((x.size + n : Nat) : Int) > 200 := by omega
  refine ⟨((⟨#[]⟩ : BA), 0, 413), ?_, ?_⟩
  ·simp only [if_pos b1]; exact ZG _ _ _ _ _ (by decide)
  ·simp only [if_pos b1]; exact Ev.now _
 have b1 : ¬ ((x.size + n : Nat) : Int) > 200 := by omega
 by_cases q2 : n > l.length - q
 ·have b2 : (n : Int) > ((l.length - q : Nat) : Int) := by omega
  refine ⟨((⟨#[]⟩ : BA), 0, 1), ?_, ?_⟩
  ·simp only [if_neg b1, if_pos b2]; exact ZG _ _ _ _ _ (by decide)
  ·simp only [if_neg b1, if_pos b2]; exact Ev.now _
 have b2 : ¬ (n : Int) > ((l.length - q : Nat) : Int) := by omega
 have b3 : (0 : Int) ≤ (n : Int) := by omega
 have b4 : (n : Int) ≤ ((l.length - q : Nat) : Int) := by omega
 have b5 : x.size + n ≤ 9223372036854775807 := by omega
 have b6 : (0 : Int) ≤ (q : Int) := by omega
 have b7 : (q : Int) ≤ ((q + n : Nat) : Int) := by omega
 have b8 : ((q + n : Nat) : Int) ≤ (l.length : Int) := by omega
 have b9 : x.size + n ≤ 200 := by omega
 have b10 : q + n - q = n := by omega
 have b11 : l.length ≤ 9223372036854775000 := by omega
 have b12 : min n (l.length - q) = n := by omega
 have b13 : ∀ m : Nat, m ≤ l.length → wrap64 ((l.length : Int) - ((l.length - m : Nat) : Int)) = (m : Int) := by
  intro m hm
  rw [wrap_id (by omega) (by omega)]; omega
 have hlen : (l.drop q).length = l.length - q := List.length_drop
 have hqr : ∀ z ∈ l.drop q, 0 ≤ z ∧ z < 256 := fun z hz => hr z (List.mem_of_mem_drop hz)
 have e1 : (strOfNums (l.drop q)).extract 0 n = strOfNums ((l.drop q).take n) := by rw [Zde _ hqr]; rfl
 have e2 : (strOfNums (l.drop q)).extract n (l.length - q) = strOfNums (l.drop (q + n)) := by
  have := ZbH _ hqr n
  rw [strOfNums_size, hlen, List.drop_drop] at this
  exact this
 have e3 : (l.take (q + n)).drop q = (l.drop q).take n := by rw [List.drop_take, b10]
 have hsz1 : (strOfNums ((l.drop q).take n)).size = n := by rw [strOfNums_size, List.length_take, hlen, b12]
 have hend := Zdh (l.drop (q + n)) (fun z hz => hr z (List.mem_of_mem_drop hz))
 have hsend := ZeH l (q + n) b11
 simp only [if_neg b1, if_neg b2, if_pos b3, if_pos b4, if_pos b6, if_pos b7, if_pos b8, e1, e2, e3, hsz1, if_pos b5, hsend, Option.bind_some]
 by_cases hc2 : (Zn (l.drop (q + n))).1 = 0
 ·have hz := ZaK hc2
  have hz2 : l.drop (q + n + 2) = (Zn (l.drop (q + n))).2 := by rw [← List.drop_drop, hz]; rfl
  have hz3 : q + n + 2 ≤ l.length := by
   have h1 := congrArg List.length hz
   rw [List.length_drop, List.length_cons, List.length_cons] at h1
   revert h1
   generalize (Zn (l.drop (q + n))).2.length = z
   clear hz hz2 hc2 hend hsend
   intro h1
   omega
  rw [← hz2, hc2] at hend
  simp only [hc2, if_true]
  rcases Nat.eq_zero_or_pos n with hn0 | hn0
  ·subst hn0
   refine ⟨(x ++ strOfNums ((l.drop q).take 0), ((q + 0 + 2 : Nat) : Int), 0), Ev.bind hend ?_, ?_⟩
   ·apply ev_succ
    simp only [impl_GetChunks.j1, if_true, strOfNums_size, List.length_drop]
    rw [b13 _ hz3]
    exact Ev.now _
   ·exact Ev.now _
  ·have b14 : ¬ (n : Int) = 0 := by
    clear hz hz2 hc2 hend hsend
    omega
   obtain ⟨X, hI, hS⟩ := next (x ++ strOfNums ((l.drop q).take n)) hz3 (by rw [ByteArray.size_append, hsz1]; exact b9)
   refine ⟨X, Ev.bind hend ?_, ?_⟩
   ·apply ev_succ
    simp only [impl_GetChunks.j1, if_true, if_neg b14]
    exact hI
   ·simp only [if_neg b14]; exact hS
 ·simp only [if_neg hc2]
  exact ⟨((⟨#[]⟩ : BA), 0, (Zn (l.drop (q + n))).1), Ev.bind hend (ZG _ _ _ _ _ hc2), Ev.now _⟩
theorem Zb9 (l : List Int) (hl : l.length ≤ 1048576) (hr : ∀ x ∈ l, 0 ≤ x ∧ x < 256) (p : Nat) (hp : p ≤ l.length) (x : BA) (hx : x.size ≤ 200)
  (next : ∀ (q : Nat) (y : BA), p < q → q ≤ l.length → y.size ≤ 200 → ∃ X, Ev (fun k => impl_GetChunks.l0 k l y (strOfNums (l.drop q)) 0) X ∧ Ev (fun k => spec_GetChunks.l0 k l (q : Int) y) X) :
  ∃ X, Ev (fun k => impl_GetChunks.l0 k l x (strOfNums (l.drop p)) 0) X ∧ Ev (fun k => spec_GetChunks.l0 k l (p : Int) x) X := by
 have hrr : ∀ z ∈ l.drop p, 0 ≤ z ∧ z < 256 := fun z hz => hr z (List.mem_of_mem_drop hz)
 have hsz := ZdV (l.drop p) hrr (by rw [List.length_drop]; omega)
 have hsp := Zdm l hl hr p hp
 have hx' : (x.size : Int) ≤ 200 := by omega
 by_cases hc : (Zb (l.drop p)).2.2 = 0
 ·have hgood := Za7 hc
  have hn := Zb8 (tw (l.drop p))
  rw [← ZdW] at hn
  have hsX : ZT p (l.drop p) = ((Zb (l.drop p)).1, ((p + (tw (l.drop p)).length + 2 : Nat) : Int), 0) := by unfold ZT; rw [if_pos hc]
  rw [hsX] at hsp
  have htl := Zb7 (l.drop p)
  rw [hgood, List.length_drop] at htl
  simp only [List.length_cons] at htl
  obtain ⟨q, hq⟩ : ∃ q, q = p + (tw (l.drop p)).length + 2 := ⟨_, rfl⟩
  rw [← hq] at hsp
  have hrest : l.drop q = (Zb (l.drop p)).2.1 := by
   have e : l.drop (p + (tw (l.drop p)).length) = 13 :: 10 :: (Zb (l.drop p)).2.1 := by rw [← List.drop_drop, Zda, hgood]
   rw [hq, show p + (tw (l.drop p)).length + 2 = (p + (tw (l.drop p)).length) + 2 from rfl, ← List.drop_drop, e]; rfl
  obtain ⟨n, hnn⟩ : ∃ n : Nat, (Zb (l.drop p)).1 = (n : Int) := ⟨(Zb (l.drop p)).1.toNat, by omega⟩
  rw [hc, ← hrest, hnn] at hsz
  rw [hnn] at hsp
  have hn' : n < 65536 := by omega
  have hql : q ≤ l.length := by omega
  have hpq : p < q := by omega
  have hlen : (l.drop q).length = l.length - q := List.length_drop
  have hss : (strOfNums (l.drop q)).size = l.length - q := by rw [strOfNums_size, hlen]
  have hqr : ∀ z ∈ l.drop q, 0 ≤ z ∧ z < 256 := fun z hz => hr z (List.mem_of_mem_drop hz)
  clear hrest hgood hsX htl hq hn hnn hrr hc hlen
  have hw : wrap64 ((x.size : Int) + (n : Int)) = ((x.size + n : Nat) : Int) := by rw [wrap_id (by omega) (by omega)]; omega
  have hwl : wrap64 ((l.length : Int) - (q : Int)) = ((l.length - q : Nat) : Int) := by rw [wrap_id (by omega) (by omega)]; omega
  have hwq : wrap64 ((q : Int) + (n : Int)) = ((q + n : Nat) : Int) := by rw [wrap_id (by omega) (by omega)]; omega
  have hwq2 : wrap64 (((q + n : Nat) : Int) + 2) = ((q + n + 2 : Nat) : Int) := by rw [wrap_id (by omega) (by omega)]; rfl
  have goI : ∀ X, Ev (fun k => if (wrap64 ((x.size : Int) + (n : Int))) > 200 then (impl_GetChunks.j1 k l x (n : Int) (strOfNums (l.drop q)) 413) else (if (n : Int) > ((strOfNums (l.drop q)).size : Int) then (impl_GetChunks.j1 k l x (n : Int) (strOfNums (l.drop q)) 1) else (if (0 : Int) ≤ (n : Int) then (if (n : Int) ≤ ((strOfNums (l.drop q)).size : Int) then (if x.size + ((strOfNums (l.drop q)).extract 0 (n : Int).toNat).size ≤ 9223372036854775807 then ((impl_chunks_end.f k ((strOfNums (l.drop q)).extract (n : Int).toNat (strOfNums (l.drop q)).size) 0).bind fun bt143 => (impl_GetChunks.j1 k l (x ++ ((strOfNums (l.drop q)).extract 0 (n : Int).toNat)) (n : Int) bt143.1 bt143.2)) else (none)) else (none)) else (none)))) X → Ev (fun k => impl_GetChunks.l0 k l x (strOfNums (l.drop p)) 0) X := by
   intro X h
   apply ev_succ
   simp only [impl_GetChunks.l0]
   refine Ev.bind hsz ?_
   simp only [if_true]
   exact h
  have goS : ∀ X, Ev (fun k => if (wrap64 ((x.size : Int) + (n : Int))) > 200 then (some ((⟨#[]⟩ : BA), 0, 413)) else (if (n : Int) > (wrap64 ((l.length : Int) - (q : Int))) then (some ((⟨#[]⟩ : BA), 0, 1)) else (if (0 : Int) ≤ (q : Int) then (if (q : Int) ≤ (wrap64 ((q : Int) + (n : Int))) then (if (wrap64 ((q : Int) + (n : Int))) ≤ (l.length : Int) then (if x.size + (strOfNums ((l.take ((wrap64 ((q : Int) + (n : Int))) : Int).toNat).drop (q : Int).toNat)).size ≤ 9223372036854775807 then ((spec_l4End.f l (wrap64 ((q : Int) + (n : Int)))).bind fun t122 => (if t122 = 0 then (if (n : Int) = 0 then (some (x ++ (strOfNums ((l.take ((wrap64 ((q : Int) + (n : Int))) : Int).toNat).drop (q : Int).toNat)), wrap64 ((wrap64 ((q : Int) + (n : Int))) + 2), 0)) else (spec_GetChunks.l0 k l (wrap64 ((wrap64 ((q : Int) + (n : Int))) + 2)) (x ++ (strOfNums ((l.take ((wrap64 ((q : Int) + (n : Int))) : Int).toNat).drop (q : Int).toNat))))) else (some ((⟨#[]⟩ : BA), 0, t122)))) else (none)) else (none)) else (none)) else (none)))) X → Ev (fun k => spec_GetChunks.l0 k l (p : Int) x) X := by
   intro X h
   apply ev_succ
   simp only [spec_GetChunks.l0, if_pos hx']
   refine Ev.bind hsp ?_
   simp only [if_true]
   exact h
  simp only [hw, hwl, hwq, hwq2, hss, Int.toNat_natCast] at goI goS
  clear hw hwl hwq hwq2 hss
  have b : p < q + n + 2 := Nat.lt_of_lt_of_le hpq (by rw [Nat.add_assoc]; exact Nat.le_add_right _ _)
  obtain ⟨X, hI, hS⟩ := Zd6 l hl hr q n hql hn' x hx (fun y h1 h2 => next _ y b h1 h2)
  exact ⟨X, goI X hI, goS X hS⟩
 ·refine ⟨((⟨#[]⟩ : BA), 0, (Zb (l.drop p)).2.2), ?_, ?_⟩
  ·apply ev_succ
   simp only [impl_GetChunks.l0]
   refine Ev.bind hsz ?_
   simp only [if_neg hc]
   exact ZG _ _ _ _ _ hc
  ·have hsX : ZT p (l.drop p) = (0, 0, (Zb (l.drop p)).2.2) := by unfold ZT; rw [if_neg hc]
   rw [hsX] at hsp
   apply ev_succ
   simp only [spec_GetChunks.l0, if_pos hx']
   refine Ev.bind hsp ?_
   simp only [if_neg hc]
   exact Ev.now _
theorem ZcK (l : List Int) (hl : l.length ≤ 1048576) (hr : ∀ x ∈ l, 0 ≤ x ∧ x < 256) : ∀ (n p : Nat) (x : BA), p ≤ l.length → l.length - p ≤ n → x.size ≤ 200 →
  ∃ X, Ev (fun k => impl_GetChunks.l0 k l x (strOfNums (l.drop p)) 0) X ∧ Ev (fun k => spec_GetChunks.l0 k l (p : Int) x) X
 | 0, p, x, hp, hn, hx => Zb9 l hl hr p hp x hx (fun q y h1 h2 _ => by omega)
 | n + 1, p, x, hp, hn, hx => Zb9 l hl hr p hp x hx (fun q y h1 h2 h3 => ZcK l hl hr n q y h2 (by omega) h3)
theorem Zdn (l : List Int) (hl : l.length ≤ 1048576) (hr : ∀ x ∈ l, 0 ≤ x ∧ x < 256) (p : Int) : ∃ X, Ev (fun k => impl_GetChunks.f k l p) X ∧ Ev (fun k => spec_GetChunks.f k l p) X := by
 unfold impl_GetChunks.f spec_GetChunks.f
 simp only [ZE, Zc9, Option.bind_some]
 by_cases q : 0 ≤ p ∧ p ≤ (l.length : Int)
 ·obtain ⟨X, h1, h2⟩ := ZcK l hl hr l.length p.toNat (⟨#[]⟩ : BA) (by omega) (by omega) (by decide)
  rw [Int.toNat_of_nonneg q.1] at h2
  simp only [decide_eq_true q.1, decide_eq_true q.2, Bool.and_self, if_true, if_pos q.1, if_pos q.2]
  exact ⟨X, h1, h2⟩
 ·have : (decide (0 ≤ p) && decide (p ≤ (l.length : Int))) = false := by
   rw [Bool.and_eq_false_iff]
   rcases Classical.not_and_iff_not_or_not.1 q with h | h
   ·exact .inl (decide_eq_false h)
   ·exact .inr (decide_eq_false h)
  simp only [this, Bool.false_eq_true, if_false]
  exact ⟨_, Ev.now _, Ev.now _⟩
def chR : Nat → List Int → List Int → List Int × List Int × Int
 | 0, _, _ => ([], [], 1)
 | n + 1, r, x =>
  if (Zb r).2.2 ≠ 0 then ([], [], (Zb r).2.2)
  else if 200 < x.length + (Zb r).1.toNat then ([], [], 413)
  else if (Zb r).2.1.length < (Zb r).1.toNat then ([], [], 1)
  else if (Zn ((Zb r).2.1.drop (Zb r).1.toNat)).1 ≠ 0 then ([], [], (Zn ((Zb r).2.1.drop (Zb r).1.toNat)).1)
  else if (Zb r).1.toNat = 0 then (x, (Zn ((Zb r).2.1.drop (Zb r).1.toNat)).2, 0)
  else chR n (Zn ((Zb r).2.1.drop (Zb r).1.toNat)).2 (x ++ (Zb r).2.1.take (Zb r).1.toNat)
theorem ZeJ {r : List Int} (h : (Zn r).1 = 0) : r.length = (Zn r).2.length + 2 := by
 have := congrArg List.length (ZaK h)
 simpa using this
theorem Zeo {r : List Int} (h : (Zb r).2.2 = 0) : (Zb r).2.1.length + 2 ≤ r.length := by
 have h1 := congrArg List.length (Za7 h)
 have h2 := Zb7 r
 simp only [List.length_cons] at h1
 omega
def chV (l : List Int) (r : List Int × List Int × Int) : BA × Int × Int := if r.2.2 = 0 then (strOfNums r.1, (l.length : Int) - (r.2.1.length : Int), 0) else ((⟨#[]⟩ : BA), 0, r.2.2)
theorem ZaU (l a b : List Int) {c : Int} (h : c ≠ 0) : chV l (a, b, c) = ((⟨#[]⟩ : BA), 0, c) := by unfold chV; rw [if_neg h]
theorem Zdo (l a b : List Int) : chV l (a, b, 0) = (strOfNums a, (l.length : Int) - (b.length : Int), 0) := by unfold chV; rw [if_pos rfl]
theorem Zfi (a b : List Int) (ha : ∀ x ∈ a, 0 ≤ x ∧ x < 256) (hb : ∀ x ∈ b, 0 ≤ x ∧ x < 256) : strOfNums a ++ strOfNums b = strOfNums (a ++ b) := by
 apply bytesOf_inj
 rw [bytesOf_append, bytesOf_strOfNums a ha, bytesOf_strOfNums b hb, bytesOf_strOfNums (a ++ b) (fun x hx => (List.mem_append.1 hx).elim (ha x) (hb x))]
theorem ZbL (l : List Int) (hl : l.length ≤ 1048576) : ∀ (n : Nat) (R x : List Int), R.length < n → R.length ≤ l.length → (∀ z ∈ R, 0 ≤ z ∧ z < 256) → (∀ z ∈ x, 0 ≤ z ∧ z < 256) → x.length ≤ 200 → Ev (fun k => impl_GetChunks.l0 k l (strOfNums x) (strOfNums R) 0) (chV l (chR n R x))
 | 0, R, x, h, _, _, _, _ => by omega
 | n + 1, R, x, hn, hR, hr, hxr, hx => by
  have hsz := ZdV R hr (by omega)
  rw [chR]
  apply ev_succ
  simp only [impl_GetChunks.l0]
  refine Ev.bind hsz ?_
  by_cases hc : (Zb R).2.2 = 0
  ·rw [if_neg (fun h => h hc)]
   have hlen := Zeo hc
   have hn0 := Zb8 (tw R)
   rw [← ZdW] at hn0
   have htr : ∀ z ∈ (Zb R).2.1, 0 ≤ z ∧ z < 256 := fun z hz => Zdi hr z (by rw [Za7 hc]; simp [hz])
   obtain ⟨m, hm⟩ : ∃ m : Nat, (Zb R).1 = (m : Int) := ⟨(Zb R).1.toNat, by omega⟩
   simp only [hc, if_true, hm, Int.toNat_natCast]
   rw [hm] at hn0
   generalize (Zb R).2.1 = t at hlen htr
   clear hsz hc hm
   have hw : wrap64 (((strOfNums x).size : Int) + (m : Int)) = ((x.length + m : Nat) : Int) := by rw [strOfNums_size, wrap_id (by omega) (by omega)]; omega
   have hwl : ∀ u : List Int, u.length ≤ l.length → wrap64 ((l.length : Int) - ((strOfNums u).size : Int)) = (l.length : Int) - (u.length : Int) := by
    intro u hu; rw [strOfNums_size, wrap_id (by omega) (by omega)]
   have hts : (strOfNums t).size = t.length := strOfNums_size t
   have hxs : (strOfNums x).size = x.length := strOfNums_size x
   simp only [hw, hts]
   by_cases q1 : 200 < x.length + m
   ·rw [if_pos q1, ZaU _ _ _ (by decide)]
    simp only [if_pos (show ((x.length + m : Nat) : Int) > 200 by omega)]
    exact ZG _ _ _ _ _ (by decide)
   rw [if_neg q1]
   simp only [if_neg (show ¬ ((x.length + m : Nat) : Int) > 200 by omega)]
   by_cases q2 : t.length < m
   ·rw [if_pos q2, ZaU _ _ _ (by decide)]
    simp only [if_pos (show (m : Int) > (t.length : Int) by omega)]
    exact ZG _ _ _ _ _ (by decide)
   rw [if_neg q2]
   have e1 : (strOfNums t).extract 0 m = strOfNums (t.take m) := by rw [Zde _ htr]; rfl
   have e2 : (strOfNums t).extract m t.length = strOfNums (t.drop m) := by
    have := ZbH _ htr m
    rw [strOfNums_size] at this
    exact this
   have hsz1 : (strOfNums (t.take m)).size = m := by rw [strOfNums_size, List.length_take]; omega
   have hend := Zdh (t.drop m) (fun z hz => htr z (List.mem_of_mem_drop hz))
   simp only [if_neg (show ¬ (m : Int) > (t.length : Int) by omega), if_pos (show (0 : Int) ≤ (m : Int) by omega), if_pos (show (m : Int) ≤ (t.length : Int) by omega), e1, e2, hsz1, hxs, if_pos (show x.length + m ≤ 9223372036854775807 by omega)]
   refine Ev.bind hend ?_
   have e3 : strOfNums x ++ strOfNums (t.take m) = strOfNums (x ++ t.take m) := Zfi _ _ hxr (fun z hz => htr z (List.mem_of_mem_take hz))
   simp only [e3]
   by_cases q3 : (Zn (t.drop m)).1 = 0
   ·rw [if_neg (fun h => h q3)]
    have h5 := ZeJ q3
    have hz := ZaK q3
    have hur : ∀ z ∈ (Zn (t.drop m)).2, 0 ≤ z ∧ z < 256 := fun z hz' => htr z (List.mem_of_mem_drop (i := m) (by rw [hz]; simp [hz']))
    rw [List.length_drop] at h5
    rw [q3]
    generalize (Zn (t.drop m)).2 = u at h5 hur
    clear hend hz q3
    apply ev_succ
    simp only [impl_GetChunks.j1, if_true]
    by_cases q4 : m = 0
    ·rw [if_pos q4, Zdo]
     subst q4
     simp only [if_pos (show ((0 : Nat) : Int) = 0 from rfl), List.take_zero, List.append_nil]
     rw [hwl u (by omega)]
     exact Ev.now _
    ·rw [if_neg q4]
     simp only [if_neg (show ¬ (m : Int) = 0 by omega)]
     refine ZbL l hl n u (x ++ t.take m) (by omega) (by omega) hur ?_ (by rw [List.length_append, List.length_take]; omega)
     intro z hz
     rcases List.mem_append.1 hz with hz | hz
     ·exact hxr z hz
     ·exact htr z (List.mem_of_mem_take hz)
   ·rw [if_pos q3, ZaU _ _ _ q3]
    exact ZG _ _ _ _ _ q3
  ·rw [if_pos hc, ZaU _ _ _ hc]
   simp only [if_neg hc]
   exact ZG _ _ _ _ _ hc
theorem ZaV (l : List Int) (hl : l.length ≤ 1048576) (hr : ∀ x ∈ l, 0 ≤ x ∧ x < 256) (p : Nat) (hp : p ≤ l.length) (n : Nat) (hn : (l.drop p).length < n) : Ev (fun k => impl_GetChunks.f k l (p : Int)) (chV l (chR n (l.drop p) [])) := by
 unfold impl_GetChunks.f
 simp only [Zc9, Option.bind_some, decide_eq_true (show (0 : Int) ≤ (p : Int) by omega), decide_eq_true (show (p : Int) ≤ (l.length : Int) by omega), Bool.and_self, if_true, if_pos (show (0 : Int) ≤ (p : Int) by omega), if_pos (show (p : Int) ≤ (l.length : Int) by omega), Int.toNat_natCast]
 exact ZbL l hl n (l.drop p) [] hn (by rw [List.length_drop]; omega) (fun z hz => hr z (List.mem_of_mem_drop hz)) (by simp) (by simp)
theorem ZdK (s : BA) : s.data.toList = (bytesOf s).map fun n => UInt8.ofNat n.toNat := by
 have h := congrArg (fun b : BA => b.data.toList) (strOfNums_bytesOf s)
 simp only [strOfNums_data] at h
 exact h.symm
def Zo : List Int → List Int → List (List Int)
 | cur, [] => [cur]
 | cur, [c] => [cur ++ [c]]
 | cur, c :: d :: r => if c = 13 ∧ d = 10 then cur :: Zo [] r else Zo (cur ++ [c]) (d :: r)
def Ze (l : List Int) : List BA := (Zo [] l).map strOfNums
def Z4 : List Int → Option Nat
 | [] => none
 | [_] => none
 | c :: d :: r => if c = 13 ∧ d = 10 then some 0 else (Z4 (d :: r)).map (· + 1)
theorem Zdp : ∀ (l cur : List Int), Zo cur l = match Z4 l with
  | none => [cur ++ l]
  | some i => (cur ++ l.take i) :: Zo [] (l.drop (i + 2))
 | [], cur => by simp [Zo, Z4]
 | [c], cur => by simp [Zo, Z4]
 | c :: d :: r, cur => by
  rw [Zo, Z4]
  by_cases q : c = 13 ∧ d = 10
  ·rw [if_pos q, if_pos q]; simp
  ·rw [if_neg q, if_neg q, Zdp (d :: r) (cur ++ [c])]
   cases h : Z4 (d :: r) with
   | none => simp
   | some i => simp
theorem ZdX : ∀ (l : List Int) (i : Nat), Z4 l = some i → i + 2 ≤ l.length
 | [], i, h => by simp [Z4] at h
 | [c], i, h => by simp [Z4] at h
 | c :: d :: r, i, h => by
  rw [Z4] at h
  split at h
  ·injection h with h; subst h; simp
  ·cases h2 : Z4 (d :: r) with
   | none => rw [h2] at h; cases h
   | some j =>
    rw [h2] at h
    simp only [Option.map_some, Option.some.injEq] at h
    have h3 := ZdX (d :: r) j h2
    simp only [List.length_cons] at h3 ⊢
    omega
theorem Zfj (t : List Int) (hr : ∀ x ∈ t, 0 ≤ x ∧ x < 256) : ([13, 10] : List UInt8).isPrefixOf (t.map fun n => UInt8.ofNat n.toNat) = decide (t.take 2 = [13, 10]) := by
 match t, hr with
 | [], _ => rfl
 | [a], _ => simp [List.isPrefixOf]
 | a :: b :: r, hr =>
  have ha := hr a (by simp); have hb := hr b (by simp)
  have e1 := Za6 ha.1 ha.2 13 (by omega); have e2 := Za6 hb.1 hb.2 10 (by omega)
  simp only [List.map_cons, List.isPrefixOf, Bool.and_true]
  have c13 : (13 : UInt8) = UInt8.ofNat 13 := rfl
  have c10 : (10 : UInt8) = UInt8.ofNat 10 := rfl
  rw [c13, c10, e1, e2]
  rw [Bool.eq_iff_iff]
  simp
theorem Zca : ∀ (t : List Int), (∀ x ∈ t, 0 ≤ x ∧ x < 256) → Lib.index (t.map fun n => UInt8.ofNat n.toNat) [13, 10] = match Z4 t with
  | none => (-1 : Int)
  | some i => (i : Int)
 | [], _ => rfl
 | [c], hr => by
  have hp := Zfj [c] hr
  simp only [List.map_cons, List.map_nil] at hp ⊢
  rw [Lib.index, hp]
  simp [Z4, Lib.index]
 | c :: d :: r, hr => by
  have hp := Zfj (c :: d :: r) hr
  have ih := Zca (d :: r) (fun x hx => hr x (by simp [hx]))
  rw [List.map_cons] at hp ⊢
  rw [Lib.index, hp, Z4, ih]
  by_cases q : c = 13 ∧ d = 10
  ·rw [if_pos q, q.1, q.2]; rfl
  ·rw [if_neg q, decide_eq_false (by simpa using q)]
   cases h : Z4 (d :: r) with
   | none => rfl
   | some i =>
    simp only [Option.map_some, Bool.false_eq_true, if_false]
    rw [if_neg (by simp only [beq_iff_eq]; omega)]
    simp
theorem Zep (s : BA) : Lib.indexB s ⟨#[13, 10]⟩ = match Z4 (bytesOf s) with
  | none => (-1 : Int)
  | some i => (i : Int) := by
 show Lib.index s.data.toList [13, 10] = _
 rw [ZdK, Zca _ (bytesOf_range s)]
theorem ZcZ : ∀ (n : Nat) (s : BA), s.size ≤ n → Lib.splitB ⟨#[13, 10]⟩ 0 (Lib.countB s ⟨#[13, 10]⟩) s = Ze (bytesOf s) := by
 intro n
 induction n with
 | zero =>
  intro s h
  have h0 : bytesOf s = [] := List.eq_nil_of_length_eq_zero (by rw [bytesOf_length]; omega)
  have hi : Lib.indexB s ⟨#[13, 10]⟩ = -1 := by rw [Zep, h0]; rfl
  rw [Lib.splitB_miss _ _ _ _ hi]
  unfold Ze
  rw [h0]
  have : s = strOfNums [] := by rw [← h0, strOfNums_bytesOf]
  rw [this]; rfl
 | succ n ih =>
  intro s h
  have hi := Zep s
  unfold Ze
  rw [Zdp]
  cases q : Z4 (bytesOf s) with
  | none =>
   rw [q] at hi
   rw [Lib.splitB_miss _ _ _ _ hi]
   simp [strOfNums_bytesOf]
  | some i =>
   rw [q] at hi
   simp only [] at hi ⊢
   have hle := ZdX _ _ q
   rw [bytesOf_length] at hle
   have h1 : 1 ≤ (⟨#[13, 10]⟩ : BA).size := by decide
   rw [Lib.countB_hit s ⟨#[13, 10]⟩ _ h1 hi, Nat.add_comm, Lib.splitB_hit _ _ _ _ _ hi]
   have e1 : bytesOf (s.extract (i + (⟨#[13, 10]⟩ : BA).size) s.size) = (bytesOf s).drop (i + 2) := by
    rw [bytesOf_extract, List.take_of_length_le (by rw [bytesOf_length]; exact Nat.le_refl _)]
    rfl
   have e2 : s.extract 0 (i + 0) = strOfNums ((bytesOf s).take i) := by
    apply bytesOf_inj
    rw [bytesOf_extract, Nat.add_zero, List.drop_zero, bytesOf_strOfNums]
    intro x hx
    exact bytesOf_range s x (List.mem_of_mem_take hx)
   have hsz : (s.extract (i + (⟨#[13, 10]⟩ : BA).size) s.size).size ≤ n := by
    rw [size_len, e1, List.length_drop, bytesOf_length]; omega
   rw [ih _ hsz, e1, e2]
   simp [Ze]
theorem Zd7 {l : List Int} {i st : Nat} {c : Int} {r : List Int} (h : l.drop i = c :: r) (hs : st ≤ i) : (l.take (i + 1)).drop st = (l.take i).drop st ++ [c] := by
 obtain ⟨_, h2, _, h4⟩ := l_drop h
 rw [List.take_add_one, h4, Option.toList_some, List.drop_append_of_le_length (by rw [List.length_take]; omega)]
theorem Zfs (t : List Int) (hr : ∀ x ∈ t, 0 ≤ x ∧ x < 256) : ([13, 10, 13, 10] : List UInt8).isPrefixOf (t.map fun n => UInt8.ofNat n.toNat) = decide (t.take 4 = [13, 10, 13, 10]) := by
 match t, hr with
 | [], _ => rfl
 | [a], _ => simp [List.isPrefixOf]
 | [a, b], _ => simp [List.isPrefixOf]
 | [a, b, c], _ => simp [List.isPrefixOf]
 | a :: b :: c :: d :: r, hr =>
  have ha := hr a (by simp); have hb := hr b (by simp); have hc := hr c (by simp); have hd := hr d (by simp)
  have e1 := Za6 ha.1 ha.2 13 (by omega); have e2 := Za6 hb.1 hb.2 10 (by omega); have e3 := Za6 hc.1 hc.2 13 (by omega); have e4 := Za6 hd.1 hd.2 10 (by omega)
  simp only [List.map_cons, List.isPrefixOf, Bool.and_true]
  have c13 : (13 : UInt8) = UInt8.ofNat 13 := rfl
  have c10 : (10 : UInt8) = UInt8.ofNat 10 := rfl
  rw [c13, c10, e1, e2, e3, e4]
  rw [Bool.eq_iff_iff]
  simp
def ZA : Nat → List Int → Int
 | _, [] => -1
 | i, c :: r => if (c :: r).take 4 = [13, 10, 13, 10] then (i : Int) + 4 else ZA (i + 1) r
theorem Za8 : ∀ (t : List Int) (i : Nat), t.length < 4 → ZA i t = -1
 | [], _, _ => rfl
 | c :: r, i, h => by
  rw [ZA, if_neg, Za8 r (i + 1) (by simp at h; omega)]
  intro e
  have := congrArg List.length e
  simp at this h
  omega
theorem Za9 : ∀ (t : List Int) (i : Nat), ZA i t ≤ i + t.length ∧ -1 ≤ ZA i t
 | [], _ => by simp [ZA]
 | c :: r, i => by
  rw [ZA]
  split
  ·rename_i e
   have := congrArg List.length e
   simp at this
   simp; omega
  ·have := Za9 r (i + 1)
   simp; omega
theorem Zcb : ∀ (t : List Int) (i : Nat), (∀ x ∈ t, 0 ≤ x ∧ x < 256) → (if Lib.index (t.map fun n => UInt8.ofNat n.toNat) [13, 10, 13, 10] < 0 then (-1 : Int) else i + Lib.index (t.map fun n => UInt8.ofNat n.toNat) [13, 10, 13, 10] + 4) = ZA i t
 | [], i, _ => rfl
 | c :: r, i, hr => by
  have hp := Zfs (c :: r) hr
  have ih := Zcb r (i + 1) (fun x hx => hr x (by simp [hx]))
  have hg := Lib.index_ge (r.map fun n => UInt8.ofNat n.toNat) [13, 10, 13, 10]
  rw [List.map_cons] at hp ⊢
  rw [Lib.index, hp, ZA]
  by_cases q : (c :: r).take 4 = [13, 10, 13, 10]
  ·rw [if_pos q, decide_eq_true q]; simp
  ·rw [if_neg q, decide_eq_false q, ← ih]
   simp only [Bool.false_eq_true, if_false, beq_iff_eq]
   by_cases q1 : Lib.index (r.map fun n => UInt8.ofNat n.toNat) [13, 10, 13, 10] = -1
   ·rw [if_pos q1, q1]; rfl
   ·rw [if_neg q1, if_neg (by omega), if_neg (by omega)]
    rw [show ((i + 1 : Nat) : Int) = i + 1 from rfl]; omega
def Zc (l : List Int) : Int := ZA 0 (l.take 400)
theorem Zfk (l : List Int) : mn (l.length : Int) 400 = ((min l.length 400 : Nat) : Int) := by unfold mn; split <;> omega
theorem ZeK (l : List Int) : l.take (min l.length 400) = l.take 400 := by
 rcases Nat.le_total l.length 400 with h | h
 ·rw [Nat.min_eq_left h, List.take_of_length_le (Nat.le_refl _), List.take_of_length_le h]
 ·rw [Nat.min_eq_right h]
theorem Zcc (l : List Int) (hr : ∀ x ∈ l, 0 ≤ x ∧ x < 256) : impl_HeadEnd.f l = some (Zc l) := by
 unfold impl_HeadEnd.f
 have hm := Zfk l
 rw [hm, if_pos (by omega), if_pos (by omega), Int.toNat_natCast, ZeK]
 have hsz : (strOfNums (l.take 400)).size ≤ 400 := by rw [strOfNums_size, List.length_take]; omega
 unfold strings_Index.f
 rw [if_pos (by omega), Option.bind_some, strOfNums_data]
 have h0 := Zcb (l.take 400) 0 (fun x hx => hr x (List.mem_of_mem_take hx))
 have hg := Lib.index_ge ((l.take 400).map fun n => UInt8.ofNat n.toNat) [13, 10, 13, 10]
 have hl := Lib.index_le ((l.take 400).map fun n => UInt8.ofNat n.toNat) [13, 10, 13, 10]
 rw [List.length_map, List.length_take] at hl
 unfold Zc
 rw [← h0]
 change (if Lib.index ((l.take 400).map fun n => UInt8.ofNat n.toNat) [13, 10, 13, 10] < 0 then some (-1) else some (wrap64 (Lib.index ((l.take 400).map fun n => UInt8.ofNat n.toNat) [13, 10, 13, 10] + 4))) = _
 by_cases q : Lib.index ((l.take 400).map fun n => UInt8.ofNat n.toNat) [13, 10, 13, 10] < 0
 ·rw [if_pos q, if_pos q]
 ·rw [if_neg q, if_neg q, wrap_id (by omega) (by omega)]; congr 1; simp
theorem Zcd (l : List Int) (hl : l.length ≤ 9223372036854775000) (hr : ∀ x ∈ l, 0 ≤ x ∧ x < 256) : Ev (fun k => spec_HeadEnd.f k l) (Zc l) := by
 have key : ∀ (n i : Nat), i + n = 400 → Ev (fun k => spec_HeadEnd.l0 k l (i : Int)) (ZA i ((l.take 400).drop i)) := by
  intro n
  induction n with
  | zero =>
   intro i hi
   have e0 : (l.take 400).drop i = [] := List.drop_eq_nil_of_le (by rw [List.length_take]; omega)
   rw [e0, ZA]
   apply ev_succ
   simp only [spec_HeadEnd.l0]
   refine ev_ite (fun _ => ?_) (fun _ => ?_)
   ·rw [decide_eq_false (by unfold wrap64; omega)]
    apply ev_succ; simp only [spec_HeadEnd.j1, Bool.false_eq_true, if_false]; exact Ev.now _
   ·apply ev_succ; simp only [spec_HeadEnd.j1, Bool.false_eq_true, if_false]; exact Ev.now _
  | succ n ih =>
   intro i hi
   rcases Nat.lt_or_ge i 400 with hlt | hge
   ·have hw3 : wrap64 ((i : Int) + 3) = ((i + 3 : Nat) : Int) := by rw [wrap_id (by omega) (by omega)]; rfl
    have hw4 : wrap64 ((i : Int) + 4) = ((i + 4 : Nat) : Int) := by rw [wrap_id (by omega) (by omega)]; rfl
    have hw1 : wrap64 ((i : Int) + 1) = ((i + 1 : Nat) : Int) := by rw [wrap_id (by omega) (by omega)]; rfl
    have jf : Ev (fun k => spec_HeadEnd.j1 k l (i : Int) false) (-1) := by
     apply ev_succ; simp only [spec_HeadEnd.j1, Bool.false_eq_true, if_false]; exact Ev.now _
    apply ev_succ
    simp only [spec_HeadEnd.l0, hw3]
    refine ev_ite (fun q => ?_) (fun q => ?_)
    ·by_cases q1 : ((i + 3 : Nat) : Int) < 400
     ·rw [decide_eq_true q1]
      have hL : i < (l.take 400).length := by rw [List.length_take]; omega
      have ht : ((l.take 400).drop i) = (l.take 400)[i] :: (l.take 400).drop (i + 1) := List.drop_eq_getElem_cons hL
      have h4 : ((l.take 400).drop i).take 4 = (l.take (i + 4)).drop i := by
       rw [List.take_drop, List.take_take, show min (i + 4) 400 = i + 4 by omega]
      apply ev_succ
      simp only [spec_HeadEnd.j1, if_true, hw4, hw1, if_pos (show (0 : Int) ≤ (i : Int) by omega), if_pos (show (i : Int) ≤ ((i + 4 : Nat) : Int) by omega), if_pos (show ((i + 4 : Nat) : Int) ≤ l.length by omega), Int.toNat_natCast]
      have hc : ((strOfNums ((l.take (i + 4)).drop i)).toList = ([13, 10, 13, 10] : List UInt8)) ↔ (l.take (i + 4)).drop i = [13, 10, 13, 10] := by
       rw [Lib.toList_data, strOfNums_data]
       have hb := bytesOf_strOfNums ((l.take (i + 4)).drop i) (fun x hx => hr x (List.mem_of_mem_take (List.mem_of_mem_drop hx)))
       unfold bytesOf at hb
       rw [strOfNums_data] at hb
       constructor
       ·intro h; rw [h] at hb; rw [← hb]; rfl
       ·intro h; rw [h]; rfl
      rw [ht, ZA, ← ht, h4]
      refine ev_ite (fun q2 => ?_) (fun q2 => ?_)
      ·rw [if_pos (hc.mp q2)]; exact Ev.now _
      ·rw [if_neg (fun h => q2 (hc.mpr h))]; exact ih (i + 1) (by omega)
     ·rw [decide_eq_false q1, Za8 _ _ (by rw [List.length_drop, List.length_take]; omega)]; exact jf
    ·rw [Za8 _ _ (by rw [List.length_drop, List.length_take]; omega)]; exact jf
   ·omega
 exact key 400 0 rfl
def ZD : List (List Int) → List Int
 | [] => []
 | [a] => a
 | a :: b :: r => a ++ 13 :: 10 :: ZD (b :: r)
theorem ZbS : ∀ (a cur r : List Int), (∀ x ∈ a, x ≠ 13) → Zo cur (a ++ r) = Zo (cur ++ a) r
 | [], cur, r, _ => by simp
 | x :: a, cur, r, h => by
  have hx : x ≠ 13 := h x (by simp)
  have ih := ZbS a (cur ++ [x]) r (fun y hy => h y (by simp [hy]))
  have e : cur ++ [x] ++ a = cur ++ x :: a := by simp
  rw [e] at ih
  rw [← ih, List.cons_append]
  cases hr : a ++ r with
  | nil => simp [Zo]
  | cons d t => rw [Zo, if_neg (fun q => hx q.1)]
theorem ZeL (cur r : List Int) : Zo cur (13 :: 10 :: r) = cur :: Zo [] r := by rw [Zo, if_pos ⟨rfl, rfl⟩]
theorem ZcL : ∀ (ls : List (List Int)), ls ≠ [] → (∀ a ∈ ls, ∀ x ∈ a, x ≠ 13) → Zo [] (ZD ls) = ls
 | [], h, _ => absurd rfl h
 | [a], _, h => by
  have h1 := ZbS a [] [] (h a (by simp))
  rw [List.append_nil, List.nil_append] at h1
  rw [ZD, h1, Zo]
 | a :: b :: r, _, h => by
  rw [ZD, ZbS a [] _ (h a (by simp)), ZeL, ZcL (b :: r) (by simp) (fun c hc => h c (by simp [hc]))]
  simp
theorem Zbq : ∀ (a : List Int) (i : Nat) (r : List Int), (∀ x ∈ a, x ≠ 13) → ZA i (a ++ r) = ZA (i + a.length) r
 | [], i, r, _ => by simp
 | x :: a, i, r, h => by
  have hx : x ≠ 13 := h x (by simp)
  rw [List.cons_append, ZA, if_neg (fun q => by simp at q; exact hx q.1), Zbq a (i + 1) r (fun y hy => h y (by simp [hy])), List.length_cons]
  congr 1; omega
theorem ZeM (i : Nat) (r : List Int) (h : r.head? ≠ some 13) : ZA i (13 :: 10 :: r) = ZA (i + 2) r := by
 rw [ZA, if_neg (fun q => by
  cases r with
  | nil => simp at q
  | cons y t => simp at q; simp at h; exact h q.1), ZA, if_neg (by simp)]
theorem Zd8 {b : List Int} {r : List (List Int)} (hb : b ≠ []) (h : ∀ x ∈ b, x ≠ 13) (t : List Int) : (ZD (b :: r) ++ t).head? ≠ some 13 := by
 cases b with
 | nil => exact absurd rfl hb
 | cons y u =>
  have hy := h y (by simp)
  cases r with
  | nil => simp [ZD]; exact hy
  | cons c s => simp [ZD]; exact hy
theorem ZcM : ∀ (ls : List (List Int)) (i : Nat) (t : List Int), ls ≠ [] → (∀ a ∈ ls, a ≠ [] ∧ ∀ x ∈ a, x ≠ 13) → ZA i (ZD ls ++ 13 :: 10 :: 13 :: 10 :: t) = ((i + (ZD ls).length + 4 : Nat) : Int)
 | [], _, _, h, _ => absurd rfl h
 | [a], i, t, _, h => by
  rw [ZD, Zbq a i _ (h a (by simp)).2, ZA, if_pos (by simp)]
  rfl
 | a :: b :: r, i, t, _, h => by
  have ih := ZcM (b :: r) (i + a.length + 2) t (by simp) (fun c hc => h c (by simp [hc]))
  have hb := h b (by simp)
  rw [ZD, List.append_assoc, List.cons_append, List.cons_append, Zbq a i _ (h a (by simp)).2, ZeM _ _ (Zd8 hb.1 hb.2 _), ih]
  simp only [List.length_append, List.length_cons]
  congr 1; omega
def Zg (u : Nat) : List Int := (Lib.decDigits u).map fun b => (b.toNat : Int)
theorem ZL (u : Nat) (h : 9 < u) : Zg u = Zg (u / 10) ++ [48 + ((u % 10 : Nat) : Int)] := by
 unfold Zg
 rw [Lib.decDigits, dif_neg (by omega), List.map_append]
 congr 1
 simp only [List.map_cons, List.map_nil, List.cons.injEq, and_true]
 rw [show (UInt8.ofNat (48 + u % 10)).toNat = 48 + u % 10 from by simp; omega]
 omega
theorem ZB (u : Nat) (h : u ≤ 9) : Zg u = [48 + (u : Int)] := by
 unfold Zg
 rw [Lib.decDigits, dif_pos (by omega)]
 simp only [List.map_cons, List.map_nil, List.cons.injEq, and_true]
 rw [show (UInt8.ofNat (48 + u)).toNat = 48 + u from by simp; omega]
 omega
theorem ZW (u : Nat) : ∀ x ∈ Zg u, 0 ≤ x ∧ x < 256 := by
 intro x hx
 obtain ⟨b, _, rfl⟩ := List.mem_map.1 hx
 have := b.toNat_lt
 omega
theorem Zfl (u : Nat) : (⟨(Lib.decDigits u).toArray⟩ : BA) = strOfNums (Zg u) := by
 apply bytesOf_inj
 rw [bytesOf_strOfNums _ (ZW u), bytesOf_mk]; rfl
theorem Zba : ∀ (k u : Nat), u < 10 ^ (k + 1) → (Zg u).length ≤ k + 1
 | 0, u, h => by rw [ZB u (by simpa using Nat.le_of_lt_succ h)]; simp
 | k + 1, u, h => by
  rcases Nat.lt_or_ge 9 u with h9 | h9
  ·rw [ZL u h9, List.length_append]
   have := Zba k (u / 10) (by rw [Nat.pow_succ] at h; omega)
   simp; omega
  ·rw [ZB u h9]; simp
theorem Zce (u : Nat) (hu : u ≤ 9223372036854775807) : wrap64 (48 + Int.tmod (u : Int) 10) % 256 = 48 + ((u % 10 : Nat) : Int) := by
 have e : Int.tmod (u : Int) 10 = ((u % 10 : Nat) : Int) := by rw [Int.tmod_eq_emod_of_nonneg (by omega)]; omega
 rw [e, wrap_id (by omega) (by omega)]
 omega
theorem ZeN (u : Nat) (hu : u ≤ 9223372036854775807) : wrap64 (Int.tdiv (u : Int) 10) = ((u / 10 : Nat) : Int) := by
 rw [Int.tdiv_eq_ediv_of_nonneg (by omega), wrap_id (by omega) (by omega)]
 omega
def ZI : Int → List Int → Option Int
 | a, [] => some a
 | a, c :: r => if 48 ≤ c ∧ c ≤ 57 then ZI (a * 10 + (c - 48)) r else none
theorem ZcN : ∀ (l : List UInt8) (acc : Nat), ZI (acc : Int) (l.map fun b => (b.toNat : Int)) = (Lib.decFrom acc l).map fun m => (m : Int)
 | [], _ => rfl
 | c :: r, acc => by
  simp only [List.map_cons, ZI, Lib.decFrom, Lib.digitVal]
  by_cases h : 48 ≤ c.toNat ∧ c.toNat ≤ 57
  ·rw [if_pos h, if_pos (by omega), ← ZcN r]
   congr 1; omega
  ·rw [if_neg h, if_neg (by omega)]; rfl
theorem Zbr : ∀ (l : List Int) (a c : Int), ZI a (l ++ [c]) = (ZI a l).bind fun m => if 48 ≤ c ∧ c ≤ 57 then some (m * 10 + (c - 48)) else none
 | [], a, c => by simp [ZI]
 | d :: r, a, c => by
  simp only [List.cons_append, ZI]
  split
  ·exact Zbr r _ c
  ·rfl
theorem ZaW : ∀ (l : List Int) (a m : Int), 0 ≤ a → ZI a l = some m → 0 ≤ m ∧ m < (a + 1) * 10 ^ l.length
 | [], a, m, ha, h => by simp only [ZI, Option.some.injEq] at h; subst h; simp; omega
 | c :: r, a, m, ha, h => by
  simp only [ZI] at h
  split at h
  ·have := ZaW r _ m (by omega) h
   refine ⟨this.1, Int.lt_of_lt_of_le this.2 ?_⟩
   rw [List.length_cons, Int.pow_succ, Int.mul_comm (10 ^ r.length) 10, ← Int.mul_assoc]
   exact Int.mul_le_mul_of_nonneg_right (by omega) (Int.le_of_lt (Int.pow_pos (by decide)))
  ·cases h
theorem ZbI (u : Nat) : Zg u ≠ [] := by
 rcases Nat.lt_or_ge 9 u with h9 | h9
 ·rw [ZL u h9]; simp
 ·rw [ZB u h9]; simp
theorem Zbs (u : Nat) : ZI 0 (Zg u) = some (u : Int) := by
 induction u using Nat.strongRecOn with
 | _ u ih =>
  rcases Nat.lt_or_ge 9 u with h9 | h9
  ·rw [ZL u h9, Zbr, ih (u / 10) (by omega), Option.bind_some, if_pos (by omega)]
   congr 1; omega
  ·rw [ZB u h9]
   simp only [ZI]
   rw [if_pos (by omega)]
   congr 1; omega
theorem Ze5 (u : Nat) : ∀ r, Zg u = 48 :: r → u = 0 := by
 induction u using Nat.strongRecOn with
 | _ u ih =>
  intro r h
  rcases Nat.lt_or_ge 9 u with h9 | h9
  ·rw [ZL u h9] at h
   cases hd : Zg (u / 10) with
   | nil => have := ZbI (u / 10); exact absurd hd this
   | cons c t =>
    rw [hd, List.cons_append] at h
    obtain ⟨rfl, _⟩ := List.cons.inj h
    have := ih (u / 10) (by omega) t hd
    omega
  ·rw [ZB u h9] at h
   have := (List.cons.inj h).1
   omega
theorem ZbT (u : Nat) : ∀ c ∈ Zg u, 48 ≤ c ∧ c ≤ 57 := by
 induction u using Nat.strongRecOn with
 | _ u ih =>
  intro c h
  rcases Nat.lt_or_ge 9 u with h9 | h9
  ·rw [ZL u h9, List.mem_append] at h
   rcases h with h | h
   ·exact ih (u / 10) (by omega) c h
   ·simp at h; omega
  ·rw [ZB u h9] at h
   simp at h; omega
theorem Zdq : ∀ (n : Nat) (l : List Int) (m : Int), l.length = n + 1 → ZI 0 l = some m → (n = 0 ∨ ∀ r, l ≠ 48 :: r) → Zg m.toNat = l
 | 0, l, m, hl, h, _ => by
  obtain ⟨c, rfl⟩ := List.length_eq_one_iff.1 hl
  simp only [ZI] at h
  split at h
  ·obtain rfl := Option.some.inj h
   rw [ZB _ (by omega)]
   congr 1; omega
  ·cases h
 | n + 1, l, m, hl, h, h0 => by
  replace h0 : ∀ r, l ≠ 48 :: r := by
   rcases h0 with h0 | h0
   ·omega
   ·exact h0
  obtain ⟨l', c, rfl⟩ : ∃ l' c, l = l' ++ [c] := ⟨l.dropLast, l.getLast (by intro e; subst e; simp at hl), (List.dropLast_concat_getLast _).symm⟩
  have hl' : l'.length = n + 1 := by simp at hl; omega
  rw [Zbr] at h
  obtain ⟨m', hm', h⟩ := Option.bind_eq_some_iff.1 h
  split at h
  ·rename_i hc
   obtain rfl := Option.some.inj h
   have hb := ZaW l' 0 m' (by omega) hm'
   have h0' : ∀ r, l' ≠ 48 :: r := fun r e => h0 (r ++ [c]) (by rw [e]; rfl)
   have ih := Zdq n l' m' hl' hm' (.inr h0')
   have h1 : 0 < m'.toNat := by
    rcases Nat.eq_zero_or_pos m'.toNat with e | e
    ·rw [e, ZB 0 (by omega)] at ih
     exact absurd ih.symm (h0' [])
    ·exact e
   rw [ZL _ (by omega), show (m' * 10 + (c - 48)).toNat / 10 = m'.toNat from by omega, ih]
   congr 2; omega
  ·cases h
theorem Zae (n : Int) (hn : n ≤ 9223372036854775807) : impl_NumText.f n = some (strOfNums (Zg n.toNat)) := by
 have e : mx n 0 = ((n.toNat : Nat) : Int) := by unfold mx; split <;> omega
 unfold impl_NumText.f
 rw [e]
 unfold strconv_Itoa.f
 rw [if_pos (by omega), Option.bind_some]
 unfold Lib.itoa
 rw [if_neg (by omega), Int.toNat_natCast, Zfl]
def ZJ (s : BA) (most : Int) : Int × Bool :=
 match ZI 0 (bytesOf s) with
 | none => (0, false)
 | some n => if 1 ≤ s.size ∧ s.size ≤ 7 ∧ ¬ (1 < s.size ∧ (bytesOf s).head? = some 48) ∧ n ≤ most then (n, true) else (0, false)
theorem ZbU (s : BA) (most : Int) (u : Nat) (hu : bytesOf s = Zg u) (h7 : s.size ≤ 7) (hm : (u : Int) ≤ most) : ZJ s most = ((u : Int), true) := by
 unfold ZJ
 rw [hu, Zbs]
 have hne := ZbI u
 have hl : s.size = (Zg u).length := by rw [← hu, bytesOf_length]
 have h1 : 1 ≤ s.size := by
  rcases Nat.eq_zero_or_pos s.size with e | e
  ·rw [e] at hl; exact absurd (List.length_eq_zero_iff.1 hl.symm) hne
  ·exact e
 refine if_pos ⟨h1, h7, ?_, hm⟩
 rintro ⟨h2, h3⟩
 cases hd : Zg u with
 | nil => exact hne hd
 | cons c r =>
  rw [hd] at h3 hl
  simp only [List.head?_cons, Option.some.injEq] at h3
  subst h3
  have := Ze5 u r hd
  subst this
  rw [ZB 0 (by omega)] at hd
  obtain ⟨_, rfl⟩ := List.cons.inj hd
  simp at hl; omega
theorem ZdY (s : BA) (most : Int) (h : ∀ u : Nat, bytesOf s = Zg u → s.size ≤ 7 → ¬ (u : Int) ≤ most) : ZJ s most = (0, false) := by
 unfold ZJ
 cases hd : ZI 0 (bytesOf s) with
 | none => rfl
 | some n =>
  refine if_neg ?_
  rintro ⟨h1, h7, h0, hm⟩
  have hb := ZaW _ 0 n (by omega) hd
  have hl := bytesOf_length s
  have := Zdq (s.size - 1) (bytesOf s) n (by omega) hd (by
   rcases Nat.eq_zero_or_pos (s.size - 1) with e | e
   ·exact .inl e
   ·refine .inr fun r hr => h0 ⟨by omega, by rw [hr]; rfl⟩)
  exact h n.toNat this.symm h7 (by omega)
theorem ZbV (s : BA) (most : Int) (hs : s.size ≤ 281474976710656) : impl_ParseNum.f s most = some (ZJ s most) := by
 unfold impl_ParseNum.f
 rw [if_pos hs]
 have hbs : bytesOf s = s.data.toList.map fun b => (b.toNat : Int) := rfl
 by_cases hy : ∃ u : Nat, bytesOf s = Zg u ∧ s.size ≤ 7 ∧ (u : Int) ≤ most
 ·obtain ⟨u, hu, h7, hm⟩ := hy
  rw [ZbU s most u hu h7 hm]
  have hlen : s.data.toList.length ≤ 18 := by have := data_length s; omega
  have hdec : Lib.decFrom 0 s.data.toList = some u := by
   have h1 := ZcN s.data.toList 0
   rw [← hbs, hu, show ((0 : Nat) : Int) = 0 from rfl, Zbs] at h1
   cases hd : Lib.decFrom 0 s.data.toList with
   | none => rw [hd] at h1; cases h1
   | some m => rw [hd] at h1; have h2 : (u : Int) = (m : Int) := Option.some.inj h1; congr 1; omega
  have hat : Lib.atoiAll s.data.toList = .ok (u : Int) := by
   cases hl : s.data.toList with
   | nil => rw [hl] at hbs; rw [hu] at hbs; exact absurd hbs (ZbI u)
   | cons c r =>
    have hc : 48 ≤ (c.toNat : Int) ∧ (c.toNat : Int) ≤ 57 := ZbT u _ (by rw [← hu, hbs, hl]; simp)
    rw [Lib.atoiAll_plain c r (by omega) (by omega), ← hl, Lib.signless_short hlen]
    unfold Lib.decNat
    rw [if_neg (by rw [hl]; simp), hdec]
    rfl
  have hn := Zba 6 u
  have hlt : (u : Int) < 10000000 := by
   have := (ZaW _ 0 _ (by omega) (Zbs u)).2
   rw [← hu, bytesOf_length] at this
   have h3 : (10 : Int) ^ s.size ≤ 10 ^ 7 := by
    have := Nat.pow_le_pow_right (n := 10) (by decide) h7
    exact_mod_cast this
   have e7 : (10 : Int) ^ 7 = 10000000 := by decide
   omega
  rw [hat]
  (try simp only [])
  rw [if_neg (by omega), if_neg (by omega), if_neg (by omega), Zae _ (by omega), Option.bind_some, Int.toNat_natCast]
  rw [if_pos]
  rw [← hu, strOfNums_bytesOf]
 ·rw [ZdY s most (fun u h1 h2 h3 => hy ⟨u, h1, h2, h3⟩)]
  cases hat : Lib.atoiAll s.data.toList with
  | range => rfl
  | ok v =>
   have hb := Lib.atoiAll_bounds hat
   (try simp only [])
   by_cases h1 : v < 0
   ·rw [if_pos h1]
   by_cases h2 : most < v
   ·rw [if_neg h1, if_pos h2]
   by_cases h3 : 7 < s.size
   ·rw [if_neg h1, if_neg h2, if_pos h3]
   rw [if_neg h1, if_neg h2, if_neg h3, Zae _ hb.2, Option.bind_some]
   rw [if_neg]
   intro e
   refine hy ⟨v.toNat, ?_, by omega, by omega⟩
   have : strOfNums (Zg v.toNat) = s := (toList_iff _ _).1 e
   rw [← this, bytesOf_strOfNums _ (ZW _)]
  | _ => rfl
def ZU (s : BA) (most n : Int) : Int × Bool := if 1 ≤ s.size ∧ s.size ≤ 7 ∧ ¬ (1 < s.size ∧ (bytesOf s).head? = some 48) ∧ n ≤ most then (n, true) else (0, false)
def Zar (s : BA) (most n : Int) (l : List Int) : Int × Bool := match ZI n l with
 | none => (0, false)
 | some m => ZU s most m
theorem Zcf (s : BA) (most n : Int) (h : 7 < s.size) : ZU s most n = (0, false) := by
 unfold ZU; rw [if_neg (by omega)]
theorem ZdL (s : BA) (most n : Int) (l : List Int) (h : 7 < s.size) : Zar s most n l = (0, false) := by
 unfold Zar
 cases ZI n l with
 | none => rfl
 | some m => exact Zcf s most m h
theorem Ze6 (s : BA) (h : 0 < s.size) : (bytesOf s).head? = some (bt s 0) := by
 cases hb : bytesOf s with
 | nil => have := bytesOf_length s; rw [hb] at this; simp at this; omega
 | cons c r =>
  have := (bt_drop (s := s) (i := 0) (by rw [List.drop_zero]; exact hb)).1
  rw [show ((0 : Nat) : Int) = 0 from rfl] at this
  rw [this]; rfl
theorem ZaE (s : BA) (most n i : Int) : Ev (fun k => spec_ParseNum.j1 k s most n i false) (ZU s most n) := by
 apply ev_succ
 simp only [spec_ParseNum.j1, Bool.false_eq_true, if_false, ZE, Option.bind_some]
 refine ev_iteB (fun q => ?_) (fun q => ?_)
 ·simp only [Bool.and_eq_true, decide_eq_true_eq] at q
  refine ev_ite (fun q1 => ?_) (fun q1 => ?_)
  ·rw [if_pos (show (0 : Int) < (s.size : Int) by omega)]
   have hb := Ze6 s (by omega)
   by_cases q2 : bt s 0 = 48
   ·rw [if_pos q2]
    have : ZU s most n = (0, false) := by
     unfold ZU
     rw [hb, q2, if_neg (fun h => h.2.2.1 ⟨by omega, rfl⟩)]
    rw [this]; exact Ev.now _
   ·rw [if_neg q2]
    have hq : ¬ (1 < s.size ∧ (bytesOf s).head? = some 48) := fun h => q2 (by have := h.2; rw [hb] at this; exact Option.some.inj this)
    by_cases q3 : n > most
    ·rw [if_pos q3]
     have : ZU s most n = (0, false) := by unfold ZU; rw [if_neg (by omega)]
     rw [this]; exact Ev.now _
    ·rw [if_neg q3]
     have : ZU s most n = (n, true) := by unfold ZU; rw [if_pos ⟨by omega, by omega, hq, by omega⟩]
     rw [this]; exact Ev.now _
  ·by_cases q3 : n > most
   ·rw [if_pos q3]
    have : ZU s most n = (0, false) := by unfold ZU; rw [if_neg (by omega)]
    rw [this]; exact Ev.now _
   ·rw [if_neg q3]
    have : ZU s most n = (n, true) := by unfold ZU; rw [if_pos ⟨by omega, by omega, fun h => by omega, by omega⟩]
    rw [this]; exact Ev.now _
 ·have : ZU s most n = (0, false) := by
   unfold ZU
   rw [if_neg]
   rintro ⟨h1, h2, _⟩
   rw [decide_eq_true (by omega), decide_eq_true (by omega)] at q
   cases q
  rw [this]; exact Ev.now _
theorem ZbW (s : BA) (most : Int) (hs : s.size ≤ 140737488351232) : Ev (fun k => spec_ParseNum.f k s most) (ZJ s most) := by
 have := str_loop_st s (fun i n k => spec_ParseNum.l0 k s most n (i : Int)) (fun i n r => Zar s most n r) (fun i n r => i ≤ 8 ∧ 0 ≤ n ∧ n < 10 ^ i ∧ i + r.length = s.size) ?_ ?_ hs 0 0 ⟨by omega, by omega, by simp, by simp [bytesOf_length]⟩
 ·exact this
 ·intro i n ⟨h8, h0, hn, hl⟩ hi
  apply ev_succ
  simp only [spec_ParseNum.l0, if_neg (show ¬ (i : Int) < s.size by omega)]
  exact ZaE s most n i
 ·intro i n c r ⟨h8, h0, hn, hl⟩ h hb hi hw hw1 ih
  have hc := bytesOf_range s c (List.mem_of_mem_drop (by rw [h]; simp : c ∈ (bytesOf s).drop i))
  apply ev_succ
  simp only [spec_ParseNum.l0, if_pos (show (i : Int) < s.size by omega)]
  rcases Nat.lt_or_ge i 8 with q8 | q8
  ·rw [decide_eq_true (by omega)]
   apply ev_succ
   simp only [spec_ParseNum.j1, if_true, if_pos (show (0 : Int) ≤ (i : Int) by omega), if_pos (show (i : Int) < s.size by omega), hb, Za4 c hw, Option.bind_some, hw1]
   have hp : (10 : Int) ^ i ≤ 10 ^ 7 := by
    have := Nat.pow_le_pow_right (n := 10) (by decide) (show i ≤ 7 by omega)
    exact_mod_cast this
   have e7 : (10 : Int) ^ 7 = 10000000 := by decide
   by_cases qd : 48 ≤ c ∧ c ≤ 57
   ·have hd : ZK c = true := by simp only [ZK, Bool.and_eq_true, decide_eq_true_eq]; exact qd
    simp only [hd, if_true]
    rw [wrap_id (x := n * 10) (by omega) (by omega), show (c - 48) % 256 = c - 48 by omega, wrap_id (x := n * 10 + (c - 48)) (by omega) (by omega)]
    have := ih (n * 10 + (c - 48)) ⟨by omega, by omega, by rw [Int.pow_succ]; omega, by simp at hl ⊢; omega⟩
    have e : Zar s most n (c :: r) = Zar s most (n * 10 + (c - 48)) r := by
     unfold Zar; simp only [ZI, if_pos qd]
    rw [e]; exact this
   ·have hd : ZK c = false := by rw [← Bool.not_eq_true]; simp only [ZK, Bool.and_eq_true, decide_eq_true_eq]; exact qd
    simp only [hd, Bool.false_eq_true, if_false]
    have e : Zar s most n (c :: r) = (0, false) := by
     unfold Zar; simp only [ZI, if_neg qd]
    rw [e]; exact Ev.now _
  ·rw [decide_eq_false (by omega), ZdL s most n (c :: r) (by simp at hl; omega)]
   have := ZaE s most n i
   rw [Zcf s most n (by simp at hl; omega)] at this
   exact this
theorem Zd9 (s : BA) (most : Int) (h : (ZJ s most).2 = true) : 0 ≤ (ZJ s most).1 ∧ (ZJ s most).1 ≤ most ∧ ∀ c ∈ bytesOf s, 48 ≤ c ∧ c ≤ 57 := by
 unfold ZJ at *
 cases hd : ZI 0 (bytesOf s) with
 | none => rw [hd] at h; cases h
 | some n =>
  rw [hd] at h
  simp only [] at h ⊢
  split at h
  ·rename_i hq
   rw [if_pos hq]
   refine ⟨(ZaW _ 0 n (by omega) hd).1, hq.2.2.2, ?_⟩
   have key : ∀ (l : List Int) (a m : Int), ZI a l = some m → ∀ c ∈ l, 48 ≤ c ∧ c ≤ 57 := by
    intro l
    induction l with
    | nil => intro a m _ c hc; cases hc
    | cons d r ih =>
     intro a m hm c hc
     simp only [ZI] at hm
     split at hm
     ·rename_i hd
      rcases List.mem_cons.1 hc with rfl | hc
      ·exact hd
      ·exact ih _ m hm c hc
     ·cases hm
   exact key _ 0 n hd
  ·cases h
def CLp : BA := ⟨#[99, 111, 110, 116, 101, 110, 116, 45, 108, 101, 110, 103, 116, 104, 58, 32]⟩
theorem Zbb : ∀ (l : List Int) (cur : List Int), (∀ x ∈ l, 0 ≤ x ∧ x < 256) → (∀ x ∈ cur, 0 ≤ x ∧ x < 256) → ∀ a ∈ Zo cur l, (∀ x ∈ a, 0 ≤ x ∧ x < 256) ∧ a.length ≤ cur.length + l.length
 | [], cur, _, hc, a, ha => by
  rw [Zo, List.mem_singleton] at ha
  subst ha; exact ⟨hc, by simp⟩
 | [c], cur, hl, hc, a, ha => by
  rw [Zo, List.mem_singleton] at ha
  subst ha
  refine ⟨fun x hx => ?_, by simp⟩
  rcases List.mem_append.1 hx with h | h
  ·exact hc x h
  ·exact hl x h
 | c :: d :: r, cur, hl, hc, a, ha => by
  rw [Zo] at ha
  split at ha
  ·rcases List.mem_cons.1 ha with h | h
   ·subst h; exact ⟨hc, by omega⟩
   ·have := Zbb r [] (fun x hx => hl x (by simp [hx])) (by simp) a h
    refine ⟨this.1, ?_⟩
    have h2 := this.2
    simp only [List.length_nil, List.length_cons] at h2 ⊢
    omega
  ·have := Zbb (d :: r) (cur ++ [c]) (fun x hx => hl x (List.mem_cons_of_mem _ hx)) (fun x hx => by
    rcases List.mem_append.1 hx with h | h
    ·exact hc x h
    ·rw [List.mem_singleton] at h; subst h; exact hl x (by simp)) a ha
   refine ⟨this.1, ?_⟩
   have h2 := this.2
   simp only [List.length_append, List.length_cons, List.length_nil] at h2 ⊢
   omega
theorem ZaR {l : List Int} (hl : ∀ x ∈ l, 0 ≤ x ∧ x < 256) : ∀ s ∈ Ze l, s.size ≤ l.length := by
 intro s hs
 obtain ⟨a, ha, rfl⟩ := List.mem_map.1 hs
 have := (Zbb l [] hl (by simp) a ha).2
 rw [strOfNums_size]; simpa using this
theorem ZbX : ∀ (l cur : List Int), 1 ≤ (Zo cur l).length ∧ (Zo cur l).length ≤ l.length + 1
 | [], cur => by simp [Zo]
 | [c], cur => by simp [Zo]
 | c :: d :: r, cur => by
  rw [Zo]
  split
  ·have := ZbX r []
   simp only [List.length_cons]; omega
  ·have := ZbX (d :: r) (cur ++ [c])
   simp only [List.length_cons] at this ⊢; omega
theorem Zbc (l : List Int) : 1 ≤ (Ze l).length ∧ (Ze l).length ≤ l.length + 1 := by
 unfold Ze; rw [List.length_map]; exact ZbX l []
theorem Zdr : ∀ (t : List Int) (i : Nat), 0 ≤ ZA i t → (i : Int) + 4 ≤ ZA i t ∧ ZA i t ≤ i + t.length
 | [], i, h => by simp [ZA] at h
 | c :: r, i, h => by
  rw [ZA] at h ⊢
  by_cases q : (c :: r).take 4 = [13, 10, 13, 10]
  ·rw [if_pos q]
   have := congrArg List.length q
   simp at this
   simp only [List.length_cons]
   omega
  ·rw [if_neg q] at h ⊢
   have := Zdr r (i + 1) h
   simp only [List.length_cons]
   omega
theorem ZdM (l : List Int) (hl : l.length ≤ 1048576) (hr : ∀ x ∈ l, 0 ≤ x ∧ x < 256) : strings_Split.f (strOfNums l) (⟨#[13, 10]⟩ : BA) = some (Ze l) := by
 unfold strings_Split.f
 rw [if_pos ⟨by rw [strOfNums_size]; omega, by decide⟩, ZcZ _ _ (Nat.le_refl _), bytesOf_strOfNums l hr]
theorem Zr (s : BA) (l : List UInt8) : s.toList = l ↔ bytesOf s = l.map fun b => (b.toNat : Int) := by
 rw [Lib.toList_data]
 unfold bytesOf
 constructor
 ·intro h; rw [h]
 ·intro h; exact List.map_inj_right (fun x y hxy => UInt8.toNat_inj.mp (by omega)) |>.mp h
theorem Zbf : ∀ (l : List UInt8) (c : UInt8), 0 ≤ Lib.indexByte l c ↔ c ∈ l
 | [], c => by simp [Lib.indexByte]
 | b :: l, c => by
  have ih := Zbf l c
  have hg := Lib.indexByte_ge l c
  simp only [Lib.indexByte]
  by_cases h : b = c
  ·subst h; simp
  ·have h' : (b == c) = false := by simpa using h
   have h2 : ¬ c = b := fun e => h e.symm
   rw [h']
   simp only [Bool.false_eq_true, if_false, List.mem_cons, h2, false_or, ← ih]
   by_cases q : Lib.indexByte l c = -1
   ·simp [q]
   ·have : (Lib.indexByte l c == -1) = false := by simpa using q
    rw [this]; simp only [Bool.false_eq_true, if_false]; omega
theorem Zeq (s : BA) (c : UInt8) : c ∈ s.data.toList ↔ (c.toNat : Int) ∈ bytesOf s := by
 unfold bytesOf
 rw [List.mem_map]
 constructor
 ·intro h; exact ⟨c, h, rfl⟩
 ·rintro ⟨d, hd, he⟩
  have : d = c := UInt8.toNat_inj.mp (by omega)
  rw [← this]; exact hd
def tkC (c : Int) (r : List Int) : List Int := r.takeWhile fun x => decide (x ≠ c)
def drC (c : Int) (r : List Int) : List Int := r.dropWhile fun x => decide (x ≠ c)
theorem Zcg (c : Int) (r : List Int) : tkC c r ++ drC c r = r := List.takeWhile_append_dropWhile
theorem Zer (c : Int) : ∀ r, c ∉ tkC c r
 | [] => by simp [tkC]
 | x :: r => by
  unfold tkC
  rw [List.takeWhile_cons]
  split
  ·rename_i h
   have h2 := Zer c r
   unfold tkC at h2
   simp only [decide_eq_true_eq] at h
   simp only [List.mem_cons, not_or]
   exact ⟨fun e => h e.symm, h2⟩
  ·simp
theorem ZeO {c : Int} {r : List Int} {a : Int} {u : List Int} (h : drC c r = a :: u) : a = c := by
 have := List.head_dropWhile_not (p := fun x : Int => decide (x ≠ c)) (l := r) (by unfold drC at h; rw [h]; simp)
 unfold drC at h
 simp only [h, List.head_cons] at this
 simpa using this
theorem ZaX (c : Int) (r : List Int) : (tkC c r).length + (drC c r).length = r.length := by rw [← List.length_append, Zcg]
theorem Zbt (c : UInt8) : ∀ l : List UInt8, Lib.index l [c] = if (l.dropWhile fun x => decide (x ≠ c)) = [] then -1 else ((l.takeWhile fun x => decide (x ≠ c)).length : Int)
 | [] => rfl
 | b :: l => by
  have ih := Zbt c l
  rw [Lib.index]
  simp only [List.isPrefixOf, Bool.and_true]
  by_cases q : b = c
  ·subst q
   simp
  ·have q1 : ¬ c = b := fun e => q e.symm
   have q2 : (c == b) = false := by simpa using q1
   rw [q2, if_neg (by simp), ih, List.dropWhile_cons, List.takeWhile_cons]
   simp only [ne_eq, q, not_false_iff, decide_true, if_true]
   by_cases q3 : (l.dropWhile fun x => decide (¬ x = c)) = []
   ·simp only [ne_eq, q3, if_true]; rfl
   ·simp only [ne_eq, if_neg q3]
    rw [if_neg (by simp only [beq_iff_eq]; omega)]
    simp
theorem Zds (c : UInt8) (l : List UInt8) : Lib.cut l [c] = (l.takeWhile (fun x => decide (x ≠ c)), (l.dropWhile fun x => decide (x ≠ c)).tail, decide ((l.dropWhile fun x => decide (x ≠ c)) ≠ [])) := by
 have ha := List.takeWhile_append_dropWhile (p := fun x => decide (x ≠ c)) (l := l)
 unfold Lib.cut
 rw [Zbt]
 generalize (l.takeWhile fun x => decide (x ≠ c)) = t at ha
 generalize (l.dropWhile fun x => decide (x ≠ c)) = d at ha
 by_cases q : d = []
 ·subst q
  rw [List.append_nil] at ha
  rw [if_pos rfl, if_neg (by decide), ha]
  rfl
 ·rw [if_neg q, if_pos (by omega)]
  subst ha
  simp only [Int.toNat_natCast, List.length_cons, List.length_nil, List.take_left, Nat.zero_add, decide_eq_true q, ne_eq, not_false_iff]
  cases d with
  | nil => exact absurd rfl q
  | cons x u =>
   refine Prod.ext rfl (Prod.ext ?_ rfl)
   show List.drop (t.length + 1) (t ++ x :: u) = u
   rw [show t ++ x :: u = (t ++ [x]) ++ u by simp]
   exact List.drop_left' (by simp)
theorem Zes (c : UInt8) (l : List UInt8) : (l.takeWhile fun x => decide (x ≠ c)).map (fun b => (b.toNat : Int)) = tkC (c.toNat : Int) (l.map fun b => (b.toNat : Int)) := by
 unfold tkC
 rw [List.takeWhile_map]
 congr 2
 funext x
 simp only [Function.comp, decide_eq_decide]
 constructor
 ·intro h e; exact h (UInt8.toNat_inj.1 (by omega))
 ·intro h e; exact h (by rw [e])
theorem Zdt (c : UInt8) (l : List UInt8) : (l.dropWhile fun x => decide (x ≠ c)).map (fun b => (b.toNat : Int)) = drC (c.toNat : Int) (l.map fun b => (b.toNat : Int)) := by
 unfold drC
 rw [List.dropWhile_map]
 congr 2
 funext x
 simp only [Function.comp, decide_eq_decide]
 constructor
 ·intro h e; exact h (UInt8.toNat_inj.1 (by omega))
 ·intro h e; exact h (by rw [e])
theorem Ze7 (s : BA) (c : UInt8) (h : s.size < 4294967281) : ∃ a b, strings_Cut.f s (⟨#[c]⟩ : BA) = some (a, b, decide (drC (c.toNat : Int) (bytesOf s) ≠ [])) ∧ bytesOf a = tkC (c.toNat : Int) (bytesOf s) ∧ bytesOf b = (drC (c.toNat : Int) (bytesOf s)).tail := by
 have hb : bytesOf s = s.data.toList.map fun b => (b.toNat : Int) := rfl
 refine ⟨⟨(Lib.cut s.data.toList [c]).1.toArray⟩, ⟨(Lib.cut s.data.toList [c]).2.1.toArray⟩, ?_, ?_, ?_⟩
 ·unfold strings_Cut.f
  rw [if_pos h, show ((⟨#[c]⟩ : BA).data.toList) = [c] from rfl, Zds]
  rw [hb, ← Zdt]
  simp only [ne_eq, List.map_eq_nil_iff]
 ·rw [bytesOf_mk, Zds, Zes, hb]
 ·rw [bytesOf_mk, Zds]
  show (List.dropWhile _ _).tail.map _ = _
  rw [List.map_tail, Zdt]
  rfl
def ZQ (c : Int) : List Int → List Int → List (List Int)
 | cur, [] => [cur]
 | cur, x :: r => if x = c then cur :: ZQ c [] r else ZQ c (cur ++ [x]) r
def Zf (c : Int) (l : List Int) : List BA := (ZQ c [] l).map strOfNums
theorem Zdu (c : Int) : ∀ (l cur : List Int), ZQ c cur l = if drC c l = [] then [cur ++ l] else (cur ++ tkC c l) :: ZQ c [] (drC c l).tail
 | [], cur => by simp [ZQ, drC]
 | x :: r, cur => by
  by_cases q : x = c
  ·rw [ZQ, if_pos q]
   have e1 : drC c (x :: r) = x :: r := by simp [drC, q]
   have e2 : tkC c (x :: r) = [] := by simp [tkC, q]
   rw [e1, e2, if_neg (by simp)]; simp
  ·have e1 : drC c (x :: r) = drC c r := by simp [drC, q]
   have e2 : tkC c (x :: r) = x :: tkC c r := by simp [tkC, q]
   rw [ZQ, if_neg q, Zdu c r (cur ++ [x]), e1, e2]
   by_cases q1 : drC c r = []
   ·rw [if_pos q1, if_pos q1]; simp
   ·rw [if_neg q1, if_neg q1]; simp
theorem Zet (c : UInt8) (s : BA) : Lib.indexB s ⟨#[c]⟩ = if drC (c.toNat : Int) (bytesOf s) = [] then -1 else ((tkC (c.toNat : Int) (bytesOf s)).length : Int) := by
 show Lib.index s.data.toList [c] = _
 rw [Zbt]
 have hb : bytesOf s = s.data.toList.map fun b => (b.toNat : Int) := rfl
 rw [hb, ← Zdt, ← Zes]
 simp only [List.map_eq_nil_iff, List.length_map]
theorem Zc0 (c : UInt8) : ∀ (n : Nat) (s : BA), s.size ≤ n → Lib.splitB ⟨#[c]⟩ 0 (Lib.countB s ⟨#[c]⟩) s = Zf (c.toNat : Int) (bytesOf s) := by
 intro n
 induction n with
 | zero =>
  intro s h
  have h0 : bytesOf s = [] := List.eq_nil_of_length_eq_zero (by rw [bytesOf_length]; omega)
  have hi : Lib.indexB s ⟨#[c]⟩ = -1 := by rw [Zet, h0]; rfl
  rw [Lib.splitB_miss _ _ _ _ hi]
  unfold Zf
  rw [h0]
  have : s = strOfNums [] := by rw [← h0, strOfNums_bytesOf]
  rw [this]; rfl
 | succ n ih =>
  intro s h
  have hi := Zet c s
  unfold Zf
  rw [Zdu]
  by_cases q : drC (c.toNat : Int) (bytesOf s) = []
  ·rw [if_pos q] at hi
   rw [Lib.splitB_miss _ _ _ _ hi, if_pos q]
   simp [strOfNums_bytesOf]
  ·rw [if_neg q] at hi
   have h1 : 1 ≤ (⟨#[c]⟩ : BA).size := Nat.le_refl 1
   rw [if_neg q, Lib.countB_hit s ⟨#[c]⟩ _ h1 hi, Nat.add_comm, Lib.splitB_hit _ _ _ _ _ hi]
   have hl := ZaX (c.toNat : Int) (bytesOf s)
   rw [bytesOf_length] at hl
   have hd : 0 < (drC (c.toNat : Int) (bytesOf s)).length := List.length_pos_iff.2 q
   have e1 : bytesOf (s.extract ((tkC (c.toNat : Int) (bytesOf s)).length + (⟨#[c]⟩ : BA).size) s.size) = (drC (c.toNat : Int) (bytesOf s)).tail := by
    rw [bytesOf_extract, List.take_of_length_le (by rw [bytesOf_length]; exact Nat.le_refl _)]
    have h2 := @List.drop_left _ (tkC (c.toNat : Int) (bytesOf s)) (drC (c.toNat : Int) (bytesOf s))
    rw [Zcg] at h2
    show (bytesOf s).drop ((tkC (c.toNat : Int) (bytesOf s)).length + 1) = _
    rw [← List.drop_drop, h2, List.drop_one]
   have e2 : s.extract 0 ((tkC (c.toNat : Int) (bytesOf s)).length + 0) = strOfNums (tkC (c.toNat : Int) (bytesOf s)) := by
    apply bytesOf_inj
    have h2 := @List.take_left _ (tkC (c.toNat : Int) (bytesOf s)) (drC (c.toNat : Int) (bytesOf s))
    rw [Zcg] at h2
    rw [bytesOf_extract, Nat.add_zero, h2, List.drop_zero, bytesOf_strOfNums]
    intro x hx
    exact bytesOf_range s x (by rw [← Zcg (c.toNat : Int) (bytesOf s)]; exact List.mem_append_left _ hx)
   have hsz : (s.extract ((tkC (c.toNat : Int) (bytesOf s)).length + (⟨#[c]⟩ : BA).size) s.size).size ≤ n := by
    rw [size_len, e1, List.length_tail]; omega
   rw [ih _ hsz, e1, e2]
   simp [Zf]
theorem Zea {l : List Int} {i st : Nat} {c : Int} {r : List Int} (h : l.drop i = c :: r) (hs : st ≤ i) : (l.take (i + 1)).drop st = (l.take i).drop st ++ [c] := by
 obtain ⟨_, h2, _, h4⟩ := l_drop h
 rw [List.take_add_one, h4, Option.toList_some, List.drop_append_of_le_length (by rw [List.length_take]; omega)]
theorem ZbY (z : Int) (s : BA) (hs : s.size ≤ 1048576) : Ev (fun k => spec_l2Split.f k s z) (Zf z (bytesOf s)) := by
 have key := str_loop_st s (fun i (x : List BA × Nat) k => spec_l2Split.l0 k s z x.1 (x.2 : Int) (i : Int)) (fun i x r => x.1 ++ (ZQ z (((bytesOf s).take i).drop x.2) r).map strOfNums) (fun i x r => x.2 ≤ i ∧ x.1.length ≤ i ∧ i + r.length = s.size) ?_ ?_ (by omega) 0 ([], 0) ⟨Nat.le_refl _, by simp, by simp [bytesOf_length]⟩
 ·unfold spec_l2Split.f Zf
  simpa using key
 ·rintro i ⟨acc, st⟩ ⟨h1, h2, h3⟩ hi
  have hi' : i = s.size := by simpa using h3
  have hw : wrap64 ((i : Int) + 1) = ((i + 1 : Nat) : Int) := by rw [wrap_id (by omega) (by omega)]; rfl
  have a1 : (i : Int) ≤ (s.size : Int) := by omega
  have a2 : (i : Int) = (s.size : Int) := by omega
  have a3 : (0 : Int) ≤ (st : Int) := by omega
  have a4 : (st : Int) ≤ (i : Int) := by simp at h1; omega
  have a5 : acc.length < 8796093022208 := by simp at h2; omega
  have a6 : ¬ ((i + 1 : Nat) : Int) ≤ (s.size : Int) := by omega
  apply ev_succ
  simp only [spec_l2Split.l0, if_pos a1, if_pos a2, if_pos a3, if_pos a4, if_pos a5, hw, Int.toNat_natCast]
  apply ev_succ
  simp only [spec_l2Split.l0, if_neg a6]
  have e : s.extract st i = strOfNums (((bytesOf s).take i).drop st) := by rw [← bytesOf_extract, strOfNums_bytesOf]
  rw [e]
  exact Ev.now _
 ·rintro i ⟨acc, st⟩ c r ⟨h1, h2, h3⟩ h hb hi hw hw1 ih
  have a1 : (i : Int) ≤ (s.size : Int) := by omega
  have a2 : ¬ (i : Int) = (s.size : Int) := by omega
  have a3 : (0 : Int) ≤ (st : Int) := by omega
  have a4 : (st : Int) ≤ (i : Int) := by simp at h1; omega
  have a5 : acc.length < 8796093022208 := by simp at h2; omega
  have a6 : (i : Int) < (s.size : Int) := by omega
  have a7 : (0 : Int) ≤ (i : Int) := by omega
  have a8 : i + 1 + r.length = s.size := by simp at h3; omega
  have a9 : st ≤ i := h1
  have a10 : acc.length ≤ i := h2
  apply ev_succ
  simp only [spec_l2Split.l0, if_pos a1, if_neg a2, if_pos a6, if_pos a7, hb, hw1]
  refine ev_ite (fun q => ?_) (fun q => ?_)
  ·simp only [if_pos a3, if_pos a4, if_pos a5, Int.toNat_natCast]
   have := ih (acc ++ [s.extract st i], i + 1) ⟨Nat.le_refl _, by simp; exact a10, a8⟩
   have e : s.extract st i = strOfNums (((bytesOf s).take i).drop st) := by rw [← bytesOf_extract, strOfNums_bytesOf]
   have e2 : ((bytesOf s).take (i + 1)).drop (i + 1) = [] := List.drop_eq_nil_of_le (by rw [List.length_take]; exact Nat.min_le_left _ _)
   simp only [e2, e] at this
   rw [e]
   simp only [ZQ, if_pos q, List.map_cons]
   simpa using this
  ·have := ih (acc, st) ⟨Nat.le_succ_of_le a9, Nat.le_succ_of_le a10, a8⟩
   simp only [Zea h a9] at this
   simp only [ZQ, if_neg q]
   exact this
theorem Zch (c : Int) : impl_isLarge.f c = some (ZH c) := by
 unfold impl_isLarge.f ZH; split <;> simp [*] <;> omega
def ZX (c : Int) : Int := if ZH c = true then c + 32 else c
def ZY (l : List Int) : List Int := l.map ZX
theorem Zeb {c : Int} (h : 0 ≤ c ∧ c < 256) : 0 ≤ ZX c ∧ ZX c < 256 := by
 unfold ZX ZH
 split
 ·rename_i q
  simp at q
  omega
 ·exact h
theorem Zdv {c : Int} (h : 0 ≤ c ∧ c < 256) (q : ZH c = true) : (c + 32) % 256 = ZX c := by
 have := Zeb h
 unfold ZX at this ⊢
 rw [if_pos q] at this ⊢
 omega
def Zk (s : BA) : BA := strOfNums (ZY (bytesOf s))
theorem Zc1 (l : List Int) (hl : l.length ≤ 1048576) (hr : ∀ x ∈ l, 0 ≤ x ∧ x < 256) : ∀ n i, l.length - i = n → i ≤ l.length → Ev (fun k => impl_Lower.l0 k ((ZY l).take i ++ l.drop i) (l.length : Int) (i : Int)) (strOfNums (ZY l)) := by
 intro n
 induction n with
 | zero =>
  intro i hn hi
  have h0 : i = l.length := by omega
  subst h0
  apply ev_succ; simp only [impl_Lower.l0, if_neg (show ¬ ((l.length : Nat) : Int) < (l.length : Int) by omega)]
  simpa [ZY, List.take_of_length_le] using Ev.now _
 | succ n ih =>
  intro i hn hi
  have hlt : i < l.length := by omega
  have hll : (ZY l).length = l.length := by simp [ZY]
  have htl : ((ZY l).take i).length = i := by rw [List.length_take]; omega
  have hlen : ((ZY l).take i ++ l.drop i).length = l.length := by rw [List.length_append, htl, List.length_drop]; omega
  have hw1 : wrap64 ((i : Int) + 1) = ((i + 1 : Nat) : Int) := by rw [wrap_id (by omega) (by omega)]; rfl
  have hrd : rd ((ZY l).take i ++ l.drop i) (i : Int) = l[i] := by
   rw [rd, Int.toNat_natCast, List.getD_eq_getElem?_getD, List.getElem?_append_right (by omega), htl, List.getElem?_drop]
   simp [hlt]
  have hc := hr l[i] (List.getElem_mem _)
  have step : (ZY l).take (i + 1) ++ l.drop (i + 1) = (ZY l).take i ++ ZX l[i] :: l.drop (i + 1) := by
   rw [List.take_succ_eq_append_getElem (by omega)]
   simp [ZY]
  have hd : l.drop i = l[i] :: l.drop (i + 1) := List.drop_eq_getElem_cons hlt
  have ih' := ih (i + 1) (by omega) (by omega)
  rw [step] at ih'
  apply ev_succ
  simp only [impl_Lower.l0, if_pos (show (i : Int) < (l.length : Int) by omega), if_pos (show (0 : Int) ≤ i by omega), hlen, hrd, Zch, Option.bind_some, hw1]
  refine ev_ite (fun q => ?_) (fun q => ?_)
  ·rw [Int.toNat_natCast, Zdv hc q, List.set_append_right _ _ (by omega), htl, Nat.sub_self, hd, List.set_cons_zero]
   exact ih'
  ·rw [show ZX l[i] = l[i] by unfold ZX; rw [if_neg q], ← hd] at ih'
   exact ih'
theorem Zbg (s : BA) (hs : s.size ≤ 1048576) : Ev (fun k => impl_Lower.f k s) (Zk s) := by
 unfold impl_Lower.f
 simp only [if_pos (show s.size < 140737488355328 by omega), Option.bind_some]
 have := Zc1 (bytesOf s) (by rw [bytesOf_length]; exact hs) (bytesOf_range s) _ 0 rfl (Nat.zero_le _)
 simpa [Zk] using this
def Zp (c : Int) : Bool := decide (c = 32) || decide (c = 9)
def Zt (l : List Int) : List Int := l.dropWhile Zp
def Zl (l : List Int) : List Int := (l.reverse.dropWhile Zp).reverse
theorem Zci (c : Int) (r : List Int) : Zl (c :: r) = if Zl r = [] then (if Zp c = true then [] else [c]) else c :: Zl r := by
 unfold Zl
 rw [List.reverse_cons, List.dropWhile_append]
 by_cases h : r.reverse.dropWhile Zp = []
 ·rw [h]
  by_cases q : Zp c = true
  ·simp [q]
  ·simp [q]
 ·have : (r.reverse.dropWhile Zp).isEmpty = false := by simpa using h
  rw [this]
  simp [h]
theorem ZcO : ∀ l : List Int, Zt (Zl l) = Zl (Zt l)
 | [] => rfl
 | c :: r => by
  have ih := ZcO r
  rw [Zci]
  by_cases q : Zp c = true
  ·have e : Zt (c :: r) = Zt r := by unfold Zt; rw [List.dropWhile_cons_of_pos q]
   rw [e, ← ih]
   by_cases h : Zl r = []
   ·rw [if_pos h, if_pos q, h]
   ·rw [if_neg h]
    unfold Zt; rw [List.dropWhile_cons_of_pos q]
  ·have e : ∀ x : List Int, Zt (c :: x) = c :: x := fun x => by unfold Zt; rw [List.dropWhile_cons_of_neg q]
   rw [e, Zci]
   by_cases h : Zl r = []
   ·rw [if_pos h, if_neg q]; exact e []
   ·rw [if_neg h]; exact e _
def Z6 (s : BA) : BA := strOfNums (Zt (Zl (bytesOf s)))
theorem ZeP {l : List Int} {x : Int} (h : x ∈ Zt (Zl l)) : x ∈ l := by
 unfold Zt Zl at h
 have h1 := (List.dropWhile_sublist _).subset h
 have h2 := (List.dropWhile_sublist _).subset (List.mem_reverse.1 h1)
 exact List.mem_reverse.1 h2
theorem Zcj (s : BA) : bytesOf (Z6 s) = Zt (Zl (bytesOf s)) := bytesOf_strOfNums _ (fun x hx => bytesOf_range s x (ZeP hx))
theorem ZcP (s : BA) : (Z6 s).size ≤ s.size := by
 rw [size_len, Zcj, size_len]
 unfold Zt Zl
 have h1 := (List.dropWhile_sublist Zp (l := ((bytesOf s).reverse.dropWhile Zp).reverse)).length_le
 have h2 := (List.dropWhile_sublist Zp (l := (bytesOf s).reverse)).length_le
 simp only [List.length_reverse] at h1 h2
 omega
theorem Zak {α β : Type} (f : α → β) (p : β → Bool) : ∀ l : List α, (l.map f).dropWhile p = (l.dropWhile (fun x => p (f x))).map f
 | [] => rfl
 | x :: r => by
  rw [List.map_cons]
  by_cases q : p (f x) = true
  ·rw [List.dropWhile_cons_of_pos q, List.dropWhile_cons_of_pos (by exact q), Zak f p r]
  ·rw [List.dropWhile_cons_of_neg q, List.dropWhile_cons_of_neg (by exact q), List.map_cons]
theorem ZeQ (b : UInt8) : ([32, 9] : List UInt8).contains b = Zp (b.toNat : Int) := by
 have H : ∀ n : Fin 256, ([32, 9] : List UInt8).contains (UInt8.ofNat n.val) = Zp (n.val : Int) := by decide +kernel
 have := H ⟨b.toNat, b.toNat_lt⟩
 simpa using this
theorem Zbu (s : BA) (hs : s.size ≤ 140737488351232) : impl_Trim.f s = some (Z6 s) := by
 unfold impl_Trim.f strings_Trim.f
 rw [if_pos ⟨by omega, by decide, by decide⟩]
 simp only [Option.bind_some]
 congr 1
 apply bytesOf_inj
 rw [Zcj, bytesOf_mk]
 unfold Lib.trimS Lib.trimLeftS Lib.trimRightS Zt Zl bytesOf
 have e : (fun x : UInt8 => ([32, 9] : List UInt8).contains x) = fun x => Zp (x.toNat : Int) := funext ZeQ
 show List.map _ (List.dropWhile (fun x => ([32, 9] : List UInt8).contains x) (List.dropWhile (fun x => ([32, 9] : List UInt8).contains x) s.data.toList.reverse).reverse) = _
 rw [e, ← List.map_reverse, Zak, ← List.map_reverse, Zak]
theorem Zck (c : Int) : spec_l1Blank.f c = some (Zp c) := by
 unfold spec_l1Blank.f Zp
 by_cases h : c = 32
 ·rw [if_pos h]; simp [h]
 ·rw [if_neg h]; simp [h]; rfl
theorem ZdN {x : BA} {c : Int} {r : List Int} (h : bytesOf x = c :: r) : bt x 0 = c ∧ bytesOf (x.extract 1 x.size) = r ∧ x.size = r.length + 1 := by
 have hd : (bytesOf x).drop 0 = c :: r := by simpa using h
 obtain ⟨h1, h2, h3⟩ := bt_drop hd
 refine ⟨by simpa using h1, ?_, by rw [size_len, h]; rfl⟩
 rw [bytesOf_extract, List.take_of_length_le (by rw [← size_len]; exact Nat.le_refl _)]
 exact h3
theorem Zdw {x : BA} {c : Int} {r : List Int} (h : bytesOf x = r ++ [c]) : bt x (r.length : Int) = c ∧ bytesOf (x.extract 0 r.length) = r ∧ x.size = r.length + 1 := by
 have hd : (bytesOf x).drop r.length = [c] := by rw [h]; simp
 obtain ⟨h1, h2, h3⟩ := bt_drop hd
 refine ⟨h1, ?_, by rw [size_len, h]; simp⟩
 rw [bytesOf_extract, h]
 simp
theorem ZaF : ∀ (l : List Int) (x : BA), bytesOf x = l.reverse → x.size ≤ 1048576 → Ev (fun k => spec_Trim.l1 k x) (strOfNums (Zl (bytesOf x)))
 | [], x, h, hs => by
  have h0 : x.size = 0 := by rw [size_len, h]; rfl
  apply ev_succ; simp only [spec_Trim.l1, if_neg (show ¬ (x.size : Int) > 0 by omega)]
  rw [h]
  have : x = strOfNums (Zl ([] : List Int).reverse) := by rw [← strOfNums_bytesOf x, h]; rfl
  rw [← this]; exact Ev.now _
 | c :: r, x, h, hs => by
  rw [List.reverse_cons] at h
  obtain ⟨h1, h2, h3⟩ := Zdw h
  rw [List.length_reverse] at h1 h2 h3
  apply ev_succ
  simp only [spec_Trim.l1, if_pos (show (x.size : Int) > 0 by omega), show wrap64 ((x.size : Int) - 1) = (r.length : Int) from by rw [wrap_id (by omega) (by omega)]; omega, if_pos (show (0 : Int) ≤ (r.length : Int) by omega), if_pos (show (r.length : Int) < (x.size : Int) by omega), if_pos (show (r.length : Int) ≤ (x.size : Int) by omega), h1, Zck, Option.bind_some, Int.toNat_natCast]
  refine ev_iteB (fun q => ?_) (fun q => ?_)
  ·have ih := ZaF r (x.extract 0 r.length) h2 (by rw [size_len, h2, List.length_reverse]; omega)
   have e : Zl (bytesOf x) = Zl (bytesOf (x.extract 0 r.length)) := by
    rw [h, h2]
    unfold Zl
    rw [List.reverse_append, List.reverse_reverse]
    show (List.dropWhile Zp (c :: r)).reverse = _
    rw [List.dropWhile_cons_of_pos q]
   rw [e]; exact ih
  ·have e : Zl (bytesOf x) = bytesOf x := by
    rw [h]
    unfold Zl
    rw [List.reverse_append, List.reverse_reverse]
    show (List.dropWhile Zp (c :: r)).reverse = _
    rw [List.dropWhile_cons_of_neg (by rw [q]; simp), List.reverse_cons]
   rw [e, strOfNums_bytesOf]; exact Ev.now _
theorem Zbv : ∀ (l : List Int) (x : BA), bytesOf x = l → x.size ≤ 1048576 → Ev (fun k => spec_Trim.l0 k x) (strOfNums (Zl (Zt (bytesOf x))))
 | [], x, h, hs => by
  have h0 : x.size = 0 := by rw [size_len, h]; rfl
  apply ev_succ; simp only [spec_Trim.l0, if_neg (show ¬ (x.size : Int) > 0 by omega)]
  apply ev_succ; simp only [spec_Trim.j1]
  have := ZaF [] x h hs
  rwa [show Zt (bytesOf x) = bytesOf x by rw [h]; rfl]
 | c :: r, x, h, hs => by
  obtain ⟨h1, h2, h3⟩ := ZdN h
  apply ev_succ
  simp only [spec_Trim.l0, if_pos (show (x.size : Int) > 0 by omega), if_pos (show (0 : Int) < (x.size : Int) by omega), if_pos (show (1 : Int) ≤ (x.size : Int) by omega), h1, Zck, Option.bind_some]
  refine ev_iteB (fun q => ?_) (fun q => ?_)
  ·have ih := Zbv r (x.extract 1 x.size) h2 (by rw [size_len, h2]; omega)
   have e : Zt (bytesOf x) = Zt (bytesOf (x.extract 1 x.size)) := by
    rw [h, h2]
    unfold Zt
    rw [List.dropWhile_cons_of_pos q]
   rw [e]; exact ih
  ·have e : Zt (bytesOf x) = bytesOf x := by
    rw [h]
    unfold Zt
    rw [List.dropWhile_cons_of_neg (by rw [q]; simp)]
   rw [e]
   apply ev_succ; simp only [spec_Trim.j1]
   exact ZaF (bytesOf x).reverse x (by rw [List.reverse_reverse]) hs
theorem Zbw (s : BA) (hs : s.size ≤ 1048576) : Ev (fun k => spec_Trim.f k s) (Z6 s) := by
 unfold spec_Trim.f Z6
 rw [ZcO]
 exact Zbv _ s rfl hs
def Z7 (s : BA) (a b : Int) : Bool := decide (a ≤ (s.size : Int)) && decide ((s.size : Int) ≤ b)
theorem Zec (c : Int) : impl_isSmall.f c = some (Zbo c) := by
 unfold impl_isSmall.f Zbo; split <;> simp [*] <;> omega
theorem Zed (c : Int) (h : wrap64 c = c) : spec_l1Small.f c = some (Zbo c) := by
 unfold spec_l1Small.f; rw [h, ZE]; rfl
def snC (first : Bool) (c : Int) : Bool := Zbo c || (!first && (ZK c || decide (c = 45)))
def snB : Nat → List Int → Bool
 | _, [] => true
 | i, c :: r => snC (i == 0) c && snB (i + 1) r
def Zz (s : BA) : Bool := snB 0 (bytesOf s) && Z7 s 1 20
theorem Zax (s : BA) (hs : s.size ≤ 140737488351232) : Ev (fun k => impl_SmallName.f k s) (Zz s) := by
 refine str_loop_st s (fun i (_ : Unit) k => impl_SmallName.l0 k s (i : Int)) (fun i _ r => snB i r && Z7 s 1 20) (fun _ _ _ => True) ?_ ?_ hs 0 () trivial
 ·intro i _ _ hi
  apply ev_succ; simp only [impl_SmallName.l0, if_neg (show ¬ (i : Int) < s.size by omega), Zc9, Option.bind_some]; exact Ev.now _
 ·intro i _ c r _ h hb hi hw hw1 ih
  replace ih := ih () trivial
  apply ev_succ
  simp only [impl_SmallName.l0, if_pos (show (i : Int) < s.size by omega), if_pos (show (0 : Int) ≤ i by omega), hb, Zec, Zb5, Option.bind_some, hw1]
  refine ev_iteB (fun q => ?_) (fun q => ev_ite (fun q0 => ?_) (fun q0 => ?_))
  ·simpa [snB, snC, q] using ih
  ·have : i = 0 := by omega
   subst this; simpa [snB, snC, q] using Ev.now false
  ·have hi0 : (i == 0) = false := by simp; omega
   refine ev_iteB (fun q1 => ?_) (fun q1 => ev_ite (fun q2 => ?_) (fun q2 => ?_))
   ·simpa [snB, snC, q, hi0, q1] using ih
   ·subst q2; simpa [snB, snC, q, hi0, q1] using ih
   ·simpa [snB, snC, q, hi0, q1, q2] using Ev.now false
theorem Zay (s : BA) (hs : s.size ≤ 140737488351232) : Ev (fun k => spec_SmallName.f k s) (Zz s) := by
 refine str_loop_st s (fun i (_ : Unit) k => spec_SmallName.l0 k s (i : Int)) (fun i _ r => snB i r && Z7 s 1 20) (fun _ _ _ => True) ?_ ?_ hs 0 () trivial
 ·intro i _ _ hi
  apply ev_succ; simp only [spec_SmallName.l0, if_neg (show ¬ (i : Int) < s.size by omega), ZE, Option.bind_some]; exact Ev.now _
 ·intro i _ c r _ h hb hi hw hw1 ih
  replace ih := ih () trivial
  apply ev_succ
  simp only [spec_SmallName.l0, if_pos (show (i : Int) < s.size by omega), if_pos (show (0 : Int) ≤ i by omega), hb, Zed c hw, Za4 c hw, Option.bind_some, hw1]
  refine ev_iteB (fun q => ?_) (fun q => ev_ite (fun q0 => ?_) (fun q0 => ?_))
  ·simpa [snB, snC, q] using ih
  ·have : i = 0 := by omega
   subst this; simpa [snB, snC, q] using Ev.now false
  ·have hi0 : (i == 0) = false := by simp; omega
   refine ev_iteB (fun q1 => ?_) (fun q1 => ev_ite (fun q2 => ?_) (fun q2 => ?_))
   ·simpa [snB, snC, q, hi0, q1] using ih
   ·subst q2; simpa [snB, snC, q, hi0, q1] using ih
   ·simpa [snB, snC, q, hi0, q1, q2] using Ev.now false
theorem Ze8 (x y : S113) : x = y ↔ x.f0 = y.f0 ∧ x.f1 = y.f1 := by cases x; cases y; simp
theorem Zee (c : Int) : impl_isPlain.f c = some (Z1 c) := by
 unfold impl_isPlain.f Z1; split <;> simp [*] <;> omega
def Z2 (l : List Int) : Bool := l.all Z1
theorem Zbh (s : BA) (hs : s.size ≤ 140737488351232) : Ev (fun k => impl_Plain.f k s) (Z2 (bytesOf s)) := by
 refine str_loop s (fun i k => impl_Plain.l0 k s (i : Int)) Z2 ?_ ?_ hs 0
 ·intro i hi
  apply ev_succ; simp only [impl_Plain.l0, if_neg (show ¬ (i : Int) < s.size by omega)]; exact Ev.now _
 ·intro i c r h hb hi hw hw1 ih
  apply ev_succ
  simp only [impl_Plain.l0, if_pos (show (i : Int) < s.size by omega), if_pos (show (0 : Int) ≤ i by omega), hb, Zee, Option.bind_some, hw1]
  refine ev_ite (fun h => ?_) (fun h => ?_)
  ·simpa [Z2, h] using ih
  ·simpa [Z2, h] using Ev.now _
theorem Zc2 (s : BA) (hs : s.size ≤ 140737488351232) : Ev (fun k => spec_Plain.f k s) (Z2 (bytesOf s)) := by
 refine str_loop s (fun i k => spec_Plain.l0 k s (i : Int)) Z2 ?_ ?_ hs 0
 ·intro i hi
  apply ev_succ; simp only [spec_Plain.l0, if_neg (show ¬ (i : Int) < s.size by omega)]; exact Ev.now _
 ·intro i c r h hb hi hw hw1 ih
  apply ev_succ
  simp only [spec_Plain.l0, if_pos (show (i : Int) < s.size by omega), if_pos (show (0 : Int) ≤ i by omega), hb, hw, ZE, Option.bind_some, hw1]
  refine ev_ite (fun h => ?_) (fun h => ?_)
  ·have : Z1 c = true := h
   simpa [Z2, this] using ih
  ·have : Z1 c = false := by simpa [Z1] using h
   simpa [Z2, this] using Ev.now _
def ZM (s : BA) : Bool := decide ((s.size : Int) ≤ 60) && (Z2 (bytesOf s) && ((Z6 s).toList == s.toList))
def ZR (s : BA) : Bool := decide (¬ s.toList = ([99, 111, 110, 116, 101, 110, 116, 45, 108, 101, 110, 103, 116, 104] : List UInt8)) && decide (¬ s.toList = ([116, 114, 97, 110, 115, 102, 101, 114, 45, 101, 110, 99, 111, 100, 105, 110, 103] : List UInt8))
def Zq (h : S113) : Bool := Zz h.f0 && (ZM h.f1 && ZR h.f0)
def Zd (l : List S113) : Bool := l.all Zq
def ZaY (l : List S113) : Bool := Zd l && decide ((l.length : Int) ≤ 8)
theorem Zbi (s : BA) (hs : s.size ≤ 1048576) : Ev (fun k => impl_valOk.f k s) (ZM s) := by
 unfold impl_valOk.f ZM
 refine ev_ite (fun q => ?_) (fun q => ?_)
 ·rw [decide_eq_true q, Bool.true_and]
  refine Ev.bind (Zbh s (by omega)) (ev_iteB (fun q1 => ?_) (fun q1 => ?_))
  ·rw [q1, Bool.true_and]
   simp only [Zbu s (by omega), Option.bind_some]; exact Ev.now _
  ·rw [q1, Bool.false_and]; exact Ev.now _
 ·rw [decide_eq_false q, Bool.false_and]; exact Ev.now _
theorem Zbj (s : BA) (hs : s.size ≤ 1048576) : Ev (fun k => spec_l3Val.f k s) (ZM s) := by
 unfold spec_l3Val.f ZM
 refine ev_ite (fun q => ?_) (fun q => ?_)
 ·rw [decide_eq_true q, Bool.true_and]
  refine Ev.bind (Zc2 s (by omega)) (ev_iteB (fun q1 => ?_) (fun q1 => ?_))
  ·rw [q1, Bool.true_and]
   refine Ev.bind (Zbw s hs) ?_
   exact Ev.now _
  ·rw [q1, Bool.false_and]; exact Ev.now _
 ·rw [decide_eq_false q, Bool.false_and]; exact Ev.now _
theorem Zcl (l : List S113) (hl : l.length ≤ 9223372036854775806) (hs : ∀ x ∈ l, x.f0.size ≤ 1048576 ∧ x.f1.size ≤ 1048576) : Ev (fun k => impl_headsOk.f k l) (ZaY l) := by
 refine list_loop_st l hl (fun i (_ : Unit) k => impl_headsOk.l0 k l l (l.length : Int) (i : Int)) (fun _ _ r => Zd r && decide ((l.length : Int) ≤ 8)) (fun _ _ r => ∀ x ∈ r, x.f0.size ≤ 1048576 ∧ x.f1.size ≤ 1048576) ?_ ?_ 0 () hs
 ·intro i _ _ hi
  apply ev_succ; simp only [impl_headsOk.l0, if_neg (show ¬ (i : Int) < l.length by omega)]; exact Ev.now _
 ·intro i _ c r hr h hb hi hw1 ih
  have hbb : rd_T113 l (i : Int) = c := hb _
  obtain ⟨hc0, hc1⟩ := hr c (by simp)
  replace ih := ih () (fun x hx => hr x (by simp [hx]))
  apply ev_succ
  simp only [impl_headsOk.l0, if_pos (show (i : Int) < l.length by omega), if_pos (show (0 : Int) ≤ i by omega), hbb, hw1]
  refine Ev.bind (Zax c.f0 (by omega)) (ev_iteB (fun q1 => ?_) (fun q1 => ?_))
  ·refine Ev.bind (Zbi c.f1 (by omega)) (ev_iteB (fun q2 => ?_) (fun q2 => ?_))
   ·refine ev_ite (fun q3 => ?_) (fun q3 => ev_ite (fun q4 => ?_) (fun q4 => ?_))
    ·rw [show (Zd (c :: r) && decide ((l.length : Int) ≤ 8)) = false by simp [Zd, Zq, ZR, q3]]; exact Ev.now _
    ·rw [show (Zd (c :: r) && decide ((l.length : Int) ≤ 8)) = false by simp [Zd, Zq, ZR, q4]]; exact Ev.now _
    ·rw [show Zd (c :: r) = Zd r by simp [Zd, Zq, ZR, q1, q2, q3, q4]]; exact ih
   ·rw [show (Zd (c :: r) && decide ((l.length : Int) ≤ 8)) = false by simp [Zd, Zq, q2]]; exact Ev.now _
  ·rw [show (Zd (c :: r) && decide ((l.length : Int) ≤ 8)) = false by simp [Zd, Zq, q1]]; exact Ev.now _
theorem Zcm (l : List S113) (hl : l.length ≤ 9223372036854775806) (hs : ∀ x ∈ l, x.f0.size ≤ 1048576 ∧ x.f1.size ≤ 1048576) : Ev (fun k => spec_l3Heads.f k l) (ZaY l) := by
 refine list_loop_st l hl (fun i (_ : Unit) k => spec_l3Heads.l0 k l (i : Int)) (fun _ _ r => Zd r && decide ((l.length : Int) ≤ 8)) (fun _ _ r => ∀ x ∈ r, x.f0.size ≤ 1048576 ∧ x.f1.size ≤ 1048576) ?_ ?_ 0 () hs
 ·intro i _ _ hi
  apply ev_succ; simp only [spec_l3Heads.l0, if_neg (show ¬ (i : Int) < l.length by omega)]; exact Ev.now _
 ·intro i _ c r hr h hb hi hw1 ih
  have hbb : rd_T113 l (i : Int) = c := hb _
  obtain ⟨hc0, hc1⟩ := hr c (by simp)
  replace ih := ih () (fun x hx => hr x (by simp [hx]))
  apply ev_succ
  simp only [spec_l3Heads.l0, if_pos (show (i : Int) < l.length by omega), if_pos (show (0 : Int) ≤ i by omega), hbb, hw1]
  refine Ev.bind (Zay c.f0 (by omega)) (ev_iteB (fun q1 => ?_) (fun q1 => ?_))
  ·refine Ev.bind (Zbj c.f1 (by omega)) (ev_iteB (fun q2 => ?_) (fun q2 => ?_))
   ·refine ev_ite (fun q3 => ?_) (fun q3 => ev_ite (fun q4 => ?_) (fun q4 => ?_))
    ·rw [show (Zd (c :: r) && decide ((l.length : Int) ≤ 8)) = false by simp [Zd, Zq, ZR, q3]]; exact Ev.now _
    ·rw [show (Zd (c :: r) && decide ((l.length : Int) ≤ 8)) = false by simp [Zd, Zq, ZR, q4]]; exact Ev.now _
    ·rw [show Zd (c :: r) = Zd r by simp [Zd, Zq, ZR, q1, q2, q3, q4]]; exact ih
   ·rw [show (Zd (c :: r) && decide ((l.length : Int) ≤ 8)) = false by simp [Zd, Zq, q2]]; exact Ev.now _
  ·rw [show (Zd (c :: r) && decide ((l.length : Int) ≤ 8)) = false by simp [Zd, Zq, q1]]; exact Ev.now _
def Zdx (m p : BA) (l : List S113) (b : BA) (m' p' : BA) (l' : List S113) (b' : BA) : Prop := m = m' ∧ p = p' ∧ l = l' ∧ b = b'
theorem Zcn (c : Int) (h : wrap64 c = c) : spec_l1Large.f c = some (ZH c) := by
 unfold spec_l1Large.f; rw [h, ZE]; rfl
def Z5 (c : Int) : Bool := decide (33 ≤ c) && decide (c ≤ 126)
def Zj (p : BA) : Bool := Z7 p 1 80 && (bytesOf p).all Z5
def Zv (m : BA) : Bool := (bytesOf m).all ZH && Z7 m 1 9
def ZN (m p : BA) (l : List S113) (b : BA) : Bool := Zv m && (Zj p && (ZaY l && decide ((b.size : Int) ≤ 200)))
theorem Zbx : ∀ l : List Int, l.all Z5 = (Z2 l && !decide ((32 : Int) ∈ l))
 | [] => rfl
 | c :: r => by
  have ih := Zbx r
  unfold Z2 at ih ⊢
  rw [List.all_cons, List.all_cons, ih]
  have e : decide ((32 : Int) ∈ c :: r) = (decide (c = 32) || decide ((32 : Int) ∈ r)) := by
   rw [Bool.eq_iff_iff, Bool.or_eq_true, decide_eq_true_iff, decide_eq_true_iff, decide_eq_true_iff, List.mem_cons]; exact ⟨fun h => h.elim (fun e => .inl e.symm) .inr, fun h => h.elim (fun e => .inl e.symm) .inr⟩
  rw [e]
  have h1 : Z5 c = (Z1 c && !decide (c = 32)) := by
   unfold Z5 Z1
   rw [Bool.eq_iff_iff]; simp; omega
  rw [h1]
  cases Z1 c <;> cases decide (c = 32) <;> cases r.all Z1 <;> cases decide ((32 : Int) ∈ r) <;> rfl
theorem ZaZ (m p : BA) (hm : m.size ≤ 1048576) (hp : p.size ≤ 1048576) : Ev (fun k => impl_lineOk.f k m p) (Zv m && Zj p) := by
 unfold Zv
 rw [Bool.and_assoc]
 refine str_loop m (fun i k => impl_lineOk.l0 k m p (i : Int)) (fun r => r.all ZH && (Z7 m 1 9 && Zj p)) ?_ ?_ (by omega) 0
 ·intro i hi
  apply ev_succ
  simp only [impl_lineOk.l0, if_neg (show ¬ (i : Int) < m.size by omega), Zc9, Option.bind_some]
  rw [List.all_nil, Bool.true_and]
  refine ev_iteB (fun q => ?_) (fun q => ?_)
  ·rw [show Z7 m 1 9 = true from q, Bool.true_and]
   refine ev_iteB (fun q1 => ?_) (fun q1 => ?_)
   ·rw [show Zj p = (bytesOf p).all Z5 by unfold Zj; rw [show Z7 p 1 80 = true from q1, Bool.true_and], Zbx]
    refine Ev.bind (Zbh p (by omega)) (ev_iteB (fun q2 => ?_) (fun q2 => ?_))
    ·rw [q2, Bool.true_and]
     have e0 : strings_Contains.f p (⟨#[32]⟩ : BA) = some (decide (0 ≤ Lib.indexByte p.data.toList 32)) := rfl
     have e1 : (0 ≤ Lib.indexByte p.data.toList 32) ↔ (32 : Int) ∈ bytesOf p := (Zbf _ _).trans (Zeq p 32)
     simp only [e0, Option.bind_some, decide_eq_decide.2 e1]; exact Ev.now _
    ·rw [q2, Bool.false_and]; exact Ev.now _
   ·rw [show Zj p = false by unfold Zj; rw [show Z7 p 1 80 = false from q1, Bool.false_and]]; exact Ev.now _
  ·rw [show Z7 m 1 9 = false from q, Bool.false_and]; exact Ev.now _
 ·intro i c r h hb hi hw hw1 ih
  apply ev_succ
  simp only [impl_lineOk.l0, if_pos (show (i : Int) < m.size by omega), if_pos (show (0 : Int) ≤ i by omega), hb, Zch, Option.bind_some, hw1]
  refine ev_iteB (fun q => ?_) (fun q => ?_)
  ·rw [List.all_cons, q, Bool.true_and]; exact ih
  ·rw [List.all_cons, q, Bool.false_and, Bool.false_and]; exact Ev.now _
theorem ZaG (m : BA) (hm : m.size ≤ 1048576) : Ev (fun k => spec_l3Method.f k m) (Zv m) := by
 refine str_loop m (fun i k => spec_l3Method.l0 k m (i : Int)) (fun r => r.all ZH && Z7 m 1 9) ?_ ?_ (by omega) 0
 ·intro i hi
  apply ev_succ
  simp only [spec_l3Method.l0, if_neg (show ¬ (i : Int) < m.size by omega), ZE, Option.bind_some]
  rw [List.all_nil, Bool.true_and]; exact Ev.now _
 ·intro i c r h hb hi hw hw1 ih
  apply ev_succ
  simp only [spec_l3Method.l0, if_pos (show (i : Int) < m.size by omega), if_pos (show (0 : Int) ≤ i by omega), hb, Zcn c hw, Option.bind_some, hw1]
  refine ev_iteB (fun q => ?_) (fun q => ?_)
  ·rw [List.all_cons, q, Bool.true_and]; exact ih
  ·rw [List.all_cons, q, Bool.false_and, Bool.false_and]; exact Ev.now _
theorem ZaH (p : BA) (hp : p.size ≤ 1048576) : Ev (fun k => spec_l3Target.f k p) (Zj p) := by
 unfold Zj
 rw [Bool.and_comm]
 refine str_loop p (fun i k => spec_l3Target.l0 k p (i : Int)) (fun r => r.all Z5 && Z7 p 1 80) ?_ ?_ (by omega) 0
 ·intro i hi
  apply ev_succ
  simp only [spec_l3Target.l0, if_neg (show ¬ (i : Int) < p.size by omega), ZE, Option.bind_some]
  rw [List.all_nil, Bool.true_and]; exact Ev.now _
 ·intro i c r h hb hi hw hw1 ih
  apply ev_succ
  simp only [spec_l3Target.l0, if_pos (show (i : Int) < p.size by omega), if_pos (show (0 : Int) ≤ i by omega), hb, hw, ZE, Option.bind_some, hw1]
  refine ev_iteB (fun q => ?_) (fun q => ?_)
  ·rw [List.all_cons, show Z5 c = true from q, Bool.true_and]; exact ih
  ·rw [List.all_cons, show Z5 c = false from q, Bool.false_and, Bool.false_and]; exact Ev.now _
theorem Zat (m p : BA) (l : List S113) (b : BA) (hm : m.size ≤ 1048576) (hp : p.size ≤ 1048576) (hl : l.length ≤ 9223372036854775806) (hs : ∀ x ∈ l, x.f0.size ≤ 1048576 ∧ x.f1.size ≤ 1048576) : Ev (fun k => impl_ReqOk.f k m p l b) (ZN m p l b) := by
 unfold impl_ReqOk.f ZN
 rw [← Bool.and_assoc]
 refine Ev.bind (ZaZ m p hm hp) (ev_iteB (fun q => ?_) (fun q => ?_))
 ·rw [q, Bool.true_and]
  refine Ev.bind (Zcl l hl hs) (ev_iteB (fun q1 => ?_) (fun q1 => ?_))
  ·rw [q1, Bool.true_and]; exact Ev.now _
  ·rw [q1, Bool.false_and]; exact Ev.now _
 ·rw [q, Bool.false_and]; exact Ev.now _
theorem Zc3 (m p : BA) (l : List S113) (b : BA) (hm : m.size ≤ 1048576) (hp : p.size ≤ 1048576) (hl : l.length ≤ 9223372036854775806) (hs : ∀ x ∈ l, x.f0.size ≤ 1048576 ∧ x.f1.size ≤ 1048576) : Ev (fun k => spec_ReqOk.f k m p l b) (ZN m p l b) := by
 unfold spec_ReqOk.f ZN
 refine Ev.bind (ZaG m hm) (ev_iteB (fun q => ?_) (fun q => ?_))
 ·rw [q, Bool.true_and]
  refine Ev.bind (ZaH p hp) (ev_iteB (fun q0 => ?_) (fun q0 => ?_))
  ·rw [q0, Bool.true_and]
   refine Ev.bind (Zcm l hl hs) (ev_iteB (fun q1 => ?_) (fun q1 => ?_))
   ·rw [q1, Bool.true_and]; exact Ev.now _
   ·rw [q1, Bool.false_and]; exact Ev.now _
  ·rw [q0, Bool.false_and]; exact Ev.now _
 ·rw [q, Bool.false_and]; exact Ev.now _
abbrev Zm := BA × BA × List S113 × BA × BA × Bool × Int × Bool × Bool
def TEb : List Int := [116, 114, 97, 110, 115, 102, 101, 114, 45, 101, 110, 99, 111, 100, 105, 110, 103]
def CLb : List Int := [99, 111, 110, 116, 101, 110, 116, 45, 108, 101, 110, 103, 116, 104]
def Zaf (n v : BA) : Zm → Zm := fun (m, p, hs, b, co, ch, sz, td, bad) =>
 if (ch || td) = true then (m, p, hs, b, co, ch, sz, td, true)
 else if bytesOf n = TEb then (m, p, hs, b, v, true, sz, td, bad)
 else (m, p, hs, b, co, ch, (ZJ v 9999999).1, true, bad || !(ZJ v 9999999).2)
def Za (s : BA) : BA := Zk (strOfNums (tkC 58 (bytesOf s)))
def Zh (s : BA) : BA := Z6 (strOfNums (drC 58 (bytesOf s)).tail)
def Zw (s : BA) : Zm → Zm := fun (m, p, hs, b, co, ch, sz, td, bad) =>
 if drC 58 (bytesOf s) ≠ [] ∧ Zz (Za s) = true ∧ ZM (Zh s) = true then
  if bytesOf (Za s) = CLb ∨ bytesOf (Za s) = TEb then Zaf (Za s) (Zh s) (m, p, hs, b, co, ch, sz, td, bad)
  else (m, p, hs ++ [⟨Za s, Zh s⟩], b, co, ch, sz, td, bad)
 else (m, p, hs, b, co, ch, sz, td, true)
theorem Zef (n v m p : BA) (hs : List S113) (b co : BA) (ch : Bool) (sz : Int) (td bad : Bool) (hv : v.size ≤ 1048576) :
  Ev (fun k => impl_reqHead_special.f k m p hs b co ch sz td bad n v) (Zaf n v (m, p, hs, b, co, ch, sz, td, bad)) := by
 have hlit : (n.toList = ([116, 114, 97, 110, 115, 102, 101, 114, 45, 101, 110, 99, 111, 100, 105, 110, 103] : List UInt8)) ↔ bytesOf n = TEb := Zr n _
 have hp := ZbV v 9999999 (by omega)
 have j : ∀ x : Bool, x = (ch || td) → Ev (fun k => impl_reqHead_special.j0 k n v x m p hs b co ch sz td bad) (Zaf n v (m, p, hs, b, co, ch, sz, td, bad)) := by
  intro x hx
  apply ev_succ
  simp only [impl_reqHead_special.j0]
  unfold Zaf
  simp only []
  rw [← hx]
  cases x with
  | true => simp only [if_true]; exact Ev.now _
  | false =>
   simp only [Bool.false_eq_true, if_false]
   by_cases q : bytesOf n = TEb
   ·simp only [if_pos q, if_pos (hlit.2 q)]; exact Ev.now _
   ·simp only [if_neg q, if_neg (fun h => q (hlit.1 h)), hp, Option.bind_some]
    cases bad <;> simp <;> exact Ev.now _
 unfold impl_reqHead_special.f
 cases ch with
 | true => simp only [if_true]; exact j true rfl
 | false => simp only [Bool.false_eq_true, if_false]; exact j td rfl
theorem Ze9 (s m p : BA) (hs : List S113) (b co : BA) (ch : Bool) (sz : Int) (td bad : Bool) (hz : s.size ≤ 1048576) (hl : hs.length ≤ 1048577) :
  Ev (fun k => impl_reqHead_line.f k m p hs b co ch sz td bad s) (Zw s (m, p, hs, b, co, ch, sz, td, bad)) := by
 obtain ⟨a, v, e, ha, hv⟩ := Ze7 s 58 (by omega)
 have ea : a = strOfNums (tkC 58 (bytesOf s)) := by rw [← strOfNums_bytesOf a, ha]; rfl
 have ev : v = strOfNums (drC 58 (bytesOf s)).tail := by rw [← strOfNums_bytesOf v, hv]; rfl
 have hlen := ZaX 58 (bytesOf s)
 rw [bytesOf_length] at hlen
 have sa : a.size ≤ 1048576 := by rw [ea, strOfNums_size]; omega
 have sv : v.size ≤ 1048576 := by rw [ev, strOfNums_size, List.length_tail]; omega
 have el : Zk a = Za s := by unfold Za; rw [ea]
 have et : Z6 v = Zh s := by unfold Zh; rw [ev]
 have sl : (Za s).size ≤ 1048576 := by rw [← el]; unfold Zk ZY; rw [strOfNums_size, List.length_map, bytesOf_length]; omega
 have st : (Zh s).size ≤ 1048576 := by rw [← et]; have := ZcP v; omega
 have h1 := Zbg a sa
 have h2 := Zbu v (by omega)
 rw [el] at h1
 rw [et] at h2
 have h3 := Zax (Za s) (by omega)
 have h4 := Zbi (Zh s) st
 have jbad : Ev (fun k => impl_reqHead_line.j0 k (Za s) (Zh s) true m p hs b co ch sz td bad) (m, p, hs, b, co, ch, sz, td, true) := by
  apply ev_succ; simp only [impl_reqHead_line.j0, if_true]; exact Ev.now _
 have hCL : ((Za s).toList = ([99, 111, 110, 116, 101, 110, 116, 45, 108, 101, 110, 103, 116, 104] : List UInt8)) ↔ bytesOf (Za s) = CLb := Zr _ _
 have hTE : ((Za s).toList = ([116, 114, 97, 110, 115, 102, 101, 114, 45, 101, 110, 99, 111, 100, 105, 110, 103] : List UInt8)) ↔ bytesOf (Za s) = TEb := Zr _ _
 have hsp := Zef (Za s) (Zh s) m p hs b co ch sz td bad st
 have jok : Ev (fun k => impl_reqHead_line.j0 k (Za s) (Zh s) false m p hs b co ch sz td bad) (if bytesOf (Za s) = CLb ∨ bytesOf (Za s) = TEb then Zaf (Za s) (Zh s) (m, p, hs, b, co, ch, sz, td, bad) else (m, p, hs ++ [⟨Za s, Zh s⟩], b, co, ch, sz, td, bad)) := by
  apply ev_succ
  simp only [impl_reqHead_line.j0, Bool.false_eq_true, if_false]
  by_cases q1 : bytesOf (Za s) = CLb
  ·rw [if_pos (show bytesOf (Za s) = CLb ∨ bytesOf (Za s) = TEb from .inl q1)]
   simp only [if_pos (hCL.2 q1)]
   exact Ev.bind hsp (Ev.now _)
  ·simp only [if_neg (fun h => q1 (hCL.1 h))]
   by_cases q2 : bytesOf (Za s) = TEb
   ·rw [if_pos (show bytesOf (Za s) = CLb ∨ bytesOf (Za s) = TEb from .inr q2)]
    simp only [if_pos (hTE.2 q2)]
    exact Ev.bind hsp (Ev.now _)
   ·rw [if_neg (show ¬ (bytesOf (Za s) = CLb ∨ bytesOf (Za s) = TEb) from fun h => h.elim q1 q2)]
    simp only [if_neg (fun h => q2 (hTE.1 h)), if_pos (show hs.length < 4398046511104 by omega)]
    exact Ev.now _
 unfold impl_reqHead_line.f Zw
 simp only [e, Option.bind_some, decide_eq_true_iff]
 refine Ev.bind h1 ?_
 simp only [h2, Option.bind_some]
 have e58 : ((58 : UInt8).toNat : Int) = 58 := rfl
 simp only [e58]
 by_cases q0 : drC 58 (bytesOf s) ≠ []
 ·simp only [if_pos q0]
  refine Ev.bind h3 ?_
  by_cases q1 : Zz (Za s) = true
  ·simp only [if_pos q1]
   refine Ev.bind h4 ?_
   by_cases q2 : ZM (Zh s) = true
   ·rw [if_pos ⟨q0, q1, q2⟩, q2]; exact jok
   ·rw [if_neg (fun h => q2 h.2.2), Bool.not_eq_true _ |>.mp q2]; exact jbad
  ·simp only [if_neg q1]
   rw [if_neg (fun h => q1 h.2.1)]; exact jbad
 ·simp only [if_neg q0]
  rw [if_neg (fun h => q0 h.1)]; exact jbad
def Zaz (x : BA) (h : S113) : BA := x ++ ((((h.f0) ++ (⟨#[58, 32]⟩ : BA)) ++ h.f1) ++ (⟨#[13, 10]⟩ : BA))
def htL : BA → List S113 → BA
 | x, [] => x
 | x, c :: r => htL (Zaz x c) r
def Zal (l : List S113) : BA := htL (⟨#[]⟩ : BA) l
theorem ZeR : (⟨#[58, 32]⟩ : BA).size = 2 := rfl
theorem ZeS : (⟨#[13, 10]⟩ : BA).size = 2 := rfl
theorem Zbd (x : BA) (h : S113) : (Zaz x h).size = x.size + (h.f0.size + 2 + h.f1.size + 2) := by
 unfold Zaz; simp only [ByteArray.size_append, ZeR, ZeS]
theorem Zdy : ∀ (l : List S113) (x : BA), (∀ y ∈ l, y.f0.size ≤ 1048576 ∧ y.f1.size ≤ 1048576) → (htL x l).size ≤ x.size + l.length * 2097156
 | [], x, _ => by simp [htL]
 | c :: r, x, h => by
  have h1 := Zdy r (Zaz x c) (fun y hy => h y (by simp [hy]))
  have h2 := h c (by simp)
  rw [Zbd] at h1
  simp only [htL, List.length_cons]
  omega
theorem Zbk (l : List S113) (hl : l.length ≤ 1048576) (h : ∀ y ∈ l, y.f0.size ≤ 1048576 ∧ y.f1.size ≤ 1048576) : (Zal l).size ≤ 2199027449856 := by
 have := Zdy l (⟨#[]⟩ : BA) h
 rw [show (⟨#[]⟩ : BA).size = 0 from rfl] at this
 unfold Zal
 omega
theorem ZbZ (l : List S113) (hl : l.length ≤ 1048576) (hs : ∀ x ∈ l, x.f0.size ≤ 1048576 ∧ x.f1.size ≤ 1048576) : Ev (fun k => impl_headText.f k l) (Zal l) := by
 refine list_loop_st l (by omega) (fun i x k => impl_headText.l0 k x l (l.length : Int) (i : Int)) (fun _ x r => htL x r) (fun i x r => x.size ≤ i * 2097156 ∧ ∀ y ∈ r, y.f0.size ≤ 1048576 ∧ y.f1.size ≤ 1048576) ?_ ?_ 0 _ ⟨by rw [show (⟨#[]⟩ : BA).size = 0 from rfl]; omega, hs⟩
 ·intro i x _ hi
  apply ev_succ; simp only [impl_headText.l0, if_neg (show ¬ (i : Int) < l.length by omega)]; exact Ev.now _
 ·intro i x c r ⟨hx, hr⟩ h hb hi hw1 ih
  have hbb : rd_T113 l (i : Int) = c := hb _
  obtain ⟨hc0, hc1⟩ := hr c (by simp)
  replace ih := ih (Zaz x c) ⟨by rw [Zbd]; omega, fun y hy => hr y (by simp [hy])⟩
  apply ev_succ
  simp only [impl_headText.l0, if_pos (show (i : Int) < l.length by omega), if_pos (show (0 : Int) ≤ i by omega), hbb, hw1, ByteArray.size_append, ZeR, ZeS, if_pos (show c.f0.size + 2 ≤ 9223372036854775807 by omega), if_pos (show c.f0.size + 2 + c.f1.size ≤ 9223372036854775807 by omega), if_pos (show c.f0.size + 2 + c.f1.size + 2 ≤ 9223372036854775807 by omega), if_pos (show x.size + (c.f0.size + 2 + c.f1.size + 2) ≤ 9223372036854775807 by omega)]
  exact ih
theorem ZdO (x : BA) (h : S113) : (((x ++ h.f0) ++ (⟨#[58, 32]⟩ : BA)) ++ h.f1) ++ (⟨#[13, 10]⟩ : BA) = Zaz x h := by
 unfold Zaz; simp only [ByteArray.append_assoc]
theorem Zbn (l : List S113) (hl : l.length ≤ 1048576) (hs : ∀ x ∈ l, x.f0.size ≤ 1048576 ∧ x.f1.size ≤ 1048576) : Ev (fun k => spec_l3HeadsText.f k l) (Zal l) := by
 refine list_loop_st l (by omega) (fun i x k => spec_l3HeadsText.l0 k l x (i : Int)) (fun _ x r => htL x r) (fun i x r => x.size ≤ i * 2097156 ∧ ∀ y ∈ r, y.f0.size ≤ 1048576 ∧ y.f1.size ≤ 1048576) ?_ ?_ 0 _ ⟨by rw [show (⟨#[]⟩ : BA).size = 0 from rfl]; omega, hs⟩
 ·intro i x _ hi
  apply ev_succ; simp only [spec_l3HeadsText.l0, if_neg (show ¬ (i : Int) < l.length by omega)]; exact Ev.now _
 ·intro i x c r ⟨hx, hr⟩ h hb hi hw1 ih
  have hbb : rd_T113 l (i : Int) = c := hb _
  obtain ⟨hc0, hc1⟩ := hr c (by simp)
  replace ih := ih (Zaz x c) ⟨by rw [Zbd]; omega, fun y hy => hr y (by simp [hy])⟩
  apply ev_succ
  simp only [spec_l3HeadsText.l0, if_pos (show (i : Int) < l.length by omega), if_pos (show (0 : Int) ≤ i by omega), hbb, hw1, ZdO, ByteArray.size_append, ZeR, ZeS, if_pos (show x.size + c.f0.size ≤ 9223372036854775807 by omega), if_pos (show x.size + c.f0.size + 2 ≤ 9223372036854775807 by omega), if_pos (show x.size + c.f0.size + 2 + c.f1.size ≤ 9223372036854775807 by omega), if_pos (show x.size + c.f0.size + 2 + c.f1.size + 2 ≤ 9223372036854775807 by omega)]
  exact ih
theorem ZaM : ∀ (n u : Nat) (x : BA), u < 10 ^ (n + 1) → u ≤ 9223372036854775807 → x.size ≤ 1000 - n → n ≤ 20 → bytesOf x = (Zg u).drop ((Zg u).length - 1) ++ (bytesOf x).drop 1 → Ev (fun k => spec_NumText.l0 k (u : Int) x) (strOfNums (Zg u ++ (bytesOf x).drop 1))
 | 0, u, x, h, hu, hx, hn, hb => by
  have h9 : u ≤ 9 := by omega
  apply ev_succ
  simp only [spec_NumText.l0, if_neg (show ¬ (u : Int) > 9 by omega)]
  rw [ZB u h9] at hb ⊢
  simp only [List.length_cons, List.length_nil, List.drop_zero, Nat.zero_add, Nat.sub_self] at hb
  rw [← hb, strOfNums_bytesOf]
  exact Ev.now _
 | n + 1, u, x, h, hu, hx, hn, hb => by
  apply ev_succ
  rcases Nat.lt_or_ge 9 u with h9 | h9
  ·have hy : bytesOf (strOfNums [48 + ((u / 10 % 10 : Nat) : Int)]) = [48 + ((u / 10 % 10 : Nat) : Int)] := bytesOf_strOfNums _ (by intro z hz; simp at hz; omega)
   have hs1 : (strOfNums [48 + ((u / 10 % 10 : Nat) : Int)]).size = 1 := by rw [size_len, hy]; rfl
   simp only [spec_NumText.l0, if_pos (show (u : Int) > 9 by omega), ZeN u hu, Zce (u / 10) (by omega), Option.bind_some, hs1, if_pos (show 1 + x.size ≤ 9223372036854775807 by omega)]
   have e : bytesOf (strOfNums [48 + ((u / 10 % 10 : Nat) : Int)] ++ x) = (48 + ((u / 10 % 10 : Nat) : Int)) :: bytesOf x := by rw [bytesOf_append, hy]; rfl
   have ih := ZaM n (u / 10) (strOfNums [48 + ((u / 10 % 10 : Nat) : Int)] ++ x) (by rw [Nat.pow_succ] at h; omega) (by omega) (by rw [ByteArray.size_append, hs1]; omega) (by omega) (by
    rw [e]
    simp only [List.drop_succ_cons, List.drop_zero]
    rcases Nat.lt_or_ge 9 (u / 10) with h10 | h10
    ·rw [ZL (u / 10) h10]
     simp
    ·rw [ZB (u / 10) h10, Nat.mod_eq_of_lt (by omega)]
     simp)
   rw [e] at ih
   simp only [List.drop_succ_cons, List.drop_zero] at ih
   rw [ZL u h9] at hb ⊢
   simp only [List.length_append, List.length_cons, List.length_nil, Nat.zero_add, Nat.add_sub_cancel, List.drop_left] at hb
   rw [List.append_assoc, ← hb]
   exact ih
  ·simp only [spec_NumText.l0, if_neg (show ¬ (u : Int) > 9 by omega)]
   rw [ZB u h9] at hb ⊢
   simp only [List.length_cons, List.length_nil, List.drop_zero, Nat.zero_add, Nat.sub_self] at hb
   rw [← hb, strOfNums_bytesOf]
   exact Ev.now _
theorem ZaN (u : Nat) (hu : u ≤ 9223372036854775807) : Ev (fun k => spec_NumText.j0 k (u : Int)) (strOfNums (Zg u)) := by
 apply ev_succ
 simp only [spec_NumText.j0, Zce u hu]
 have hy : bytesOf (strOfNums [48 + ((u % 10 : Nat) : Int)]) = [48 + ((u % 10 : Nat) : Int)] := bytesOf_strOfNums _ (by intro z hz; simp at hz; omega)
 have hs1 : (strOfNums [48 + ((u % 10 : Nat) : Int)]).size = 1 := by rw [size_len, hy]; rfl
 have := ZaM 18 u (strOfNums [48 + ((u % 10 : Nat) : Int)]) (by omega) hu (by omega) (by omega) (by
  rw [hy]
  rcases Nat.lt_or_ge 9 u with h9 | h9
  ·rw [ZL u h9]; simp
  ·rw [ZB u h9, Nat.mod_eq_of_lt (by omega)]; simp)
 rw [hy] at this
 simpa using this
theorem Zco (n : Int) (hn : n ≤ 9223372036854775807) : Ev (fun k => spec_NumText.f k n) (strOfNums (Zg n.toNat)) := by
 unfold spec_NumText.f
 refine ev_ite (fun h => ?_) (fun h => ?_)
 ·rw [show n.toNat = 0 from by omega]
  exact ZaN 0 (by omega)
 ·have := ZaN n.toNat (by omega)
  rwa [Int.toNat_of_nonneg (by omega)] at this
theorem Zau : (⟨#[13, 10]⟩ : BA).size = 2 := rfl
def Zac (b : BA) : BA := ((⟨#[99, 111, 110, 116, 101, 110, 116, 45, 108, 101, 110, 103, 116, 104, 58, 32]⟩ : BA) ++ strOfNums (Zg b.size)) ++ (⟨#[13, 10]⟩ : BA)
theorem Zeg : (⟨#[99, 111, 110, 116, 101, 110, 116, 45, 108, 101, 110, 103, 116, 104, 58, 32]⟩ : BA).size = 16 := rfl
theorem Zb0 (u : Nat) (h : u ≤ 1048576) : (strOfNums (Zg u)).size ≤ 7 := by
 rw [size_len, bytesOf_strOfNums _ (ZW u)]
 exact Zba 6 u (by omega)
theorem Zby (b : BA) (hb : b.size ≤ 1048576) : impl_lengthText.f b = some (Zac b) := by
 have hn := Zb0 b.size hb
 have e := Zae (b.size : Int) (by omega)
 rw [Int.toNat_natCast] at e
 unfold impl_lengthText.f
 rw [e, Option.bind_some, if_pos (by omega), if_pos (by simp only [ByteArray.size_append, Zeg]; omega)]
 rfl
theorem Z3 (l : List BA) (i : Nat) : rdOf ByteArray.empty l (i : Int) = l.getD i ByteArray.empty := by
 unfold rdOf; rw [Int.toNat_natCast]
def CHb : List Int := [99, 104, 117, 110, 107, 101, 100]
def Zag : List Int := [72, 84, 84, 80, 47, 49, 46, 49]
def ZC (st : Zm) : List S113 := st.2.2.1
def Zb1 (st : Zm) : BA := st.2.2.2.2.1
def Zbe (st : Zm) : Bool := st.2.2.2.2.2.1
def ZaI (st : Zm) : Int := st.2.2.2.2.2.2.1
def Zaa (st : Zm) : Bool := st.2.2.2.2.2.2.2.2
def stZ : Zm := (⟨#[]⟩, ⟨#[]⟩, [], ⟨#[]⟩, ⟨#[]⟩, false, 0, false, false)
def Z9 (st : Zm) : Int := if Zaa st = true then 400 else if 8 < (ZC st).length then 431 else if Zbe st = true ∧ bytesOf (Zk (Zb1 st)) ≠ CHb then 501 else if 200 < ZaI st then 413 else 0
theorem Zbz (m p : BA) (hs : List S113) (b co : BA) (ch : Bool) (sz : Int) (td bad : Bool) : Z9 (m, p, hs, b, co, ch, sz, td, bad) = if bad = true then 400 else if 8 < hs.length then 431 else if ch = true ∧ bytesOf (Zk co) ≠ CHb then 501 else if 200 < sz then 413 else 0 := rfl
def Zx (ls : List BA) (st : Zm) : Zm := ls.foldl (fun st s => Zw s st) st
def rhS (l : List Int) : Zm × Int :=
 if (Zf 32 (bytesOf ((Ze l).getD 0 ByteArray.empty))).length = 3 ∧ bytesOf ((Zf 32 (bytesOf ((Ze l).getD 0 ByteArray.empty))).getD 2 ByteArray.empty) = Zag ∧ (Zv ((Zf 32 (bytesOf ((Ze l).getD 0 ByteArray.empty))).getD 0 ByteArray.empty) && Zj ((Zf 32 (bytesOf ((Ze l).getD 0 ByteArray.empty))).getD 1 ByteArray.empty)) = true then
  (Zx ((Ze l).drop 1) ((Zf 32 (bytesOf ((Ze l).getD 0 ByteArray.empty))).getD 0 ByteArray.empty, (Zf 32 (bytesOf ((Ze l).getD 0 ByteArray.empty))).getD 1 ByteArray.empty, [], ⟨#[]⟩, ⟨#[]⟩, false, 0, false, false),
   Z9 (Zx ((Ze l).drop 1) ((Zf 32 (bytesOf ((Ze l).getD 0 ByteArray.empty))).getD 0 ByteArray.empty, (Zf 32 (bytesOf ((Ze l).getD 0 ByteArray.empty))).getD 1 ByteArray.empty, [], ⟨#[]⟩, ⟨#[]⟩, false, 0, false, false)))
 else (stZ, 400)
def Zdb (r : Zm × Int) : BA × BA × List S113 × BA × BA × Bool × Int × Bool × Bool × Int :=
 (r.1.1, r.1.2.1, r.1.2.2.1, r.1.2.2.2.1, r.1.2.2.2.2.1, r.1.2.2.2.2.2.1, r.1.2.2.2.2.2.2.1, r.1.2.2.2.2.2.2.2.1, r.1.2.2.2.2.2.2.2.2, r.2)
def StP (n : Nat) (st : Zm) : Prop := (ZC st).length ≤ n ∧ (∀ x ∈ ZC st, x.f0.size ≤ 1048576 ∧ x.f1.size ≤ 1048576) ∧ (Zb1 st).size ≤ 1048576 ∧ 0 ≤ ZaI st
theorem Zfa (s : BA) (m : Int) : 0 ≤ (ZJ s m).1 := by
 by_cases h : (ZJ s m).2 = true
 ·exact (Zd9 s m h).1
 ·have e : ZJ s m = (0, false) ∨ (ZJ s m).2 = true := by
   by_cases q : ∃ u : Nat, bytesOf s = Zg u ∧ s.size ≤ 7 ∧ (u : Int) ≤ m
   ·obtain ⟨u, h1, h2, h3⟩ := q
    right; rw [ZbU s m u h1 h2 h3]
   ·left; exact ZdY s m (fun u h1 h2 h3 => q ⟨u, h1, h2, h3⟩)
  rcases e with e | e
  ·rw [e]; exact Int.le_refl 0
  ·exact absurd e h
theorem Zcp (s : BA) (n : Nat) (h : s.size ≤ n) : (Za s).size ≤ n := by
 have hlen := ZaX 58 (bytesOf s)
 rw [bytesOf_length] at hlen
 have := bytesOf_length (strOfNums (tkC 58 (bytesOf s)))
 unfold Za Zk ZY; rw [strOfNums_size, List.length_map, bytesOf_length, strOfNums_size]; omega
theorem ZcQ (s : BA) (n : Nat) (h : s.size ≤ n) : (Zh s).size ≤ n := by
 have hlen := ZaX 58 (bytesOf s)
 rw [bytesOf_length] at hlen
 have := ZcP (strOfNums (drC 58 (bytesOf s)).tail)
 rw [strOfNums_size, List.length_tail] at this
 unfold Zh; omega
theorem ZdZ {n : Nat} {st : Zm} {s : BA} (h : StP n st) (hs : s.size ≤ 1048576) : StP (n + 1) (Zw s st) := by
 obtain ⟨m, p, hs', b, co, ch, sz, td, bad⟩ := st
 obtain ⟨h1, h2, h3, h4⟩ := h
 have hv := ZcQ s 1048576 hs
 have hn := Zcp s 1048576 hs
 simp only [ZC, Zb1, ZaI] at h1 h2 h3 h4
 unfold Zw
 simp only []
 split
 ·split
  ·unfold Zaf
   simp only []
   split
   ·exact ⟨by simp only [ZC]; omega, h2, h3, h4⟩
   ·split
    ·exact ⟨by simp only [ZC]; omega, h2, hv, h4⟩
    ·exact ⟨by simp only [ZC]; omega, h2, h3, Zfa _ _⟩
  ·refine ⟨by simp only [ZC, List.length_append, List.length_cons, List.length_nil]; omega, fun x hx => ?_, h3, h4⟩
   rcases List.mem_append.1 hx with hx | hx
   ·exact h2 x hx
   ·simp only [List.mem_cons, List.not_mem_nil, or_false] at hx
    subst hx; exact ⟨hn, hv⟩
 ·exact ⟨by simp only [ZC]; omega, h2, h3, h4⟩
theorem Zeu : ∀ (ls : List BA) (n : Nat) (st : Zm), StP n st → (∀ x ∈ ls, x.size ≤ 1048576) → StP (n + ls.length) (Zx ls st)
 | [], n, st, h, _ => h
 | s :: ls, n, st, h, hx => by
  have := Zeu ls (n + 1) (Zw s st) (ZdZ h (hx s (by simp))) (fun x h => hx x (by simp [h]))
  rw [List.length_cons, show n + (ls.length + 1) = n + 1 + ls.length by omega]
  exact this
theorem Zdz (ls0 ls : List BA) (st : Zm) (i : Int) (hi : ¬ i < (ls.length : Int)) (h : StP 1048577 st) :
  Ev (fun k => impl_readHead.l0 k ls0 ls (ls.length : Int) i st.1 st.2.1 st.2.2.1 st.2.2.2.1 st.2.2.2.2.1 st.2.2.2.2.2.1 st.2.2.2.2.2.2.1 st.2.2.2.2.2.2.2.1 st.2.2.2.2.2.2.2.2) (Zdb (st, Z9 st)) := by
 obtain ⟨m, p, hs', b, co, ch, sz, td, bad⟩ := st
 obtain ⟨h1, h2, h3, h4⟩ := h
 simp only [ZC, Zb1, ZaI] at h1 h2 h3 h4
 have hlow := Zbg co h3
 have hlit : ((Zk co).toList = ([99, 104, 117, 110, 107, 101, 100] : List UInt8)) ↔ bytesOf (Zk co) = CHb := Zr _ _
 have j2 : ∀ x : Bool, (x = true ↔ ch = true ∧ bytesOf (Zk co) ≠ CHb) → Ev (fun k => impl_readHead.j2 k x m p hs' b co ch sz td bad) (m, p, hs', b, co, ch, sz, td, bad, if ch = true ∧ bytesOf (Zk co) ≠ CHb then 501 else if 200 < sz then 413 else 0) := by
  intro x hx
  apply ev_succ
  simp only [impl_readHead.j2]
  by_cases q : x = true
  ·rw [if_pos (hx.1 q)]; simp only [if_pos q]; exact Ev.now _
  ·rw [if_neg (fun h => q (hx.2 h))]; simp only [if_neg q]
   by_cases q1 : sz > 200
   ·rw [if_pos (show 200 < sz from q1)]; simp only [if_pos q1]; exact Ev.now _
   ·rw [if_neg (show ¬ 200 < sz from q1)]; simp only [if_neg q1]; exact Ev.now _
 show Ev _ (m, p, hs', b, co, ch, sz, td, bad, Z9 (m, p, hs', b, co, ch, sz, td, bad))
 rw [Zbz]
 apply ev_succ
 simp only [impl_readHead.l0, if_neg hi]
 by_cases c0 : bad = true
 ·simp only [if_pos c0]; exact Ev.now _
 simp only [if_neg c0]
 by_cases c1 : (hs'.length : Int) > 8
 ·simp only [if_pos c1, if_pos (show 8 < hs'.length by omega)]; exact Ev.now _
 simp only [if_neg c1, if_neg (show ¬ 8 < hs'.length by omega)]
 cases ch with
 | true =>
  simp only [if_true]
  refine Ev.bind hlow ?_
  have := j2 ((Zk co).toList != ([99, 104, 117, 110, 107, 101, 100] : List UInt8)) (by
   rw [bne_iff_ne, Ne, hlit]; simp)
  simpa using this
 | false =>
  simp only [Bool.false_eq_true, if_false]
  have := j2 false (by simp)
  simpa using this
theorem ZbM (ls0 ls : List BA) (hx : ∀ x ∈ ls, x.size ≤ 1048576) (hn : ls.length ≤ 1048576) : ∀ (m i : Nat) (st : Zm), ls.length - i = m → i ≤ ls.length → StP i st →
  Ev (fun k => impl_readHead.l0 k ls0 ls (ls.length : Int) (i : Int) st.1 st.2.1 st.2.2.1 st.2.2.2.1 st.2.2.2.2.1 st.2.2.2.2.2.1 st.2.2.2.2.2.2.1 st.2.2.2.2.2.2.2.1 st.2.2.2.2.2.2.2.2) (Zdb (Zx (ls.drop i) st, Z9 (Zx (ls.drop i) st)))
 | 0, i, st, hm, hi, h => by
  have he : i = ls.length := by omega
  subst he
  rw [List.drop_length]
  exact Zdz ls0 ls st _ (by omega) ⟨by have := h.1; omega, h.2⟩
 | m + 1, i, st, hm, hi, h => by
  have hlt : i < ls.length := by omega
  have hsz := hx ls[i] (List.getElem_mem hlt)
  have ih := ZbM ls0 ls hx hn m (i + 1) (Zw ls[i] st) (by omega) (by omega) (ZdZ h hsz)
  have hw1 : wrap64 ((i : Int) + 1) = ((i + 1 : Nat) : Int) := by rw [wrap_id (by omega) (by omega)]; rfl
  have hgt : ls[i]? = some ls[i] := List.getElem?_eq_getElem hlt
  have hrd : rdOf ByteArray.empty ls (i : Int) = ls[i] := by rw [Z3, List.getD_eq_getElem?_getD, hgt]; rfl
  have hd : ls.drop i = ls[i] :: ls.drop (i + 1) := List.drop_eq_getElem_cons hlt
  have hfold : Zx (ls.drop i) st = Zx (ls.drop (i + 1)) (Zw ls[i] st) := by rw [hd]; rfl
  rw [hfold]
  have hl := h.1
  obtain ⟨a0, a1, a2, a3, a4, a5, a6, a7, a8⟩ := st
  simp only [ZC] at hl
  have hline := Ze9 ls[i] a0 a1 a2 a3 a4 a5 a6 a7 a8 hsz (by omega)
  apply ev_succ
  simp only [impl_readHead.l0, if_pos (show (i : Int) < (ls.length : Int) by omega), if_pos (show (0 : Int) ≤ (i : Int) by omega), hrd, hw1]
  exact Ev.bind hline ih
theorem Zev (s : BA) (c : UInt8) (h : s.size ≤ 1048576) : strings_Split.f s (⟨#[c]⟩ : BA) = some (Zf (c.toNat : Int) (bytesOf s)) := by
 unfold strings_Split.f
 rw [if_pos ⟨by omega, Nat.le_refl 1⟩, Zc0 c s.size s (Nat.le_refl _)]
theorem ZbA (c : Int) : ∀ (l cur : List Int), ∀ a ∈ ZQ c cur l, a.length ≤ cur.length + l.length
 | [], cur, a, h => by simp [ZQ] at h; subst h; simp
 | x :: r, cur, a, h => by
  rw [ZQ] at h
  split at h
  ·simp only [List.mem_cons] at h
   rcases h with h | h
   ·subst h; omega
   ·have := ZbA c r [] a h; simp only [List.length_nil, List.length_cons] at this ⊢; omega
  ·have := ZbA c r _ a h; simp only [List.length_append, List.length_cons, List.length_nil] at this ⊢; omega
theorem ZbN (c : Int) (l : List Int) (i : Nat) : ((Zf c l).getD i ByteArray.empty).size ≤ l.length := by
 rw [List.getD_eq_getElem?_getD]
 rcases Nat.lt_or_ge i (Zf c l).length with h | h
 ·rw [List.getElem?_eq_getElem h]
  show ((Zf c l)[i]).size ≤ _
  obtain ⟨a, ha, e⟩ := List.mem_map.1 (List.getElem_mem h)
  rw [← e, strOfNums_size]
  have := ZbA c l [] a ha
  simpa using this
 ·rw [List.getElem?_eq_none h]; exact Nat.zero_le _
theorem ZdP (l : List Int) (hl : l.length ≤ 1048576) (hr : ∀ x ∈ l, 0 ≤ x ∧ x < 256) : Ev (fun k => impl_readHead.f k (strOfNums l)) (Zdb (rhS l)) := by
 have hln := Zbc l
 have hsz := ZaR hr
 unfold impl_readHead.f rhS
 simp only [ZdM l hl hr, Option.bind_some]
 generalize Ze l = ls at hln hsz
 have h00 : rdOf ByteArray.empty ls 0 = ls.getD 0 ByteArray.empty := Z3 ls 0
 have hg : (ls.getD 0 ByteArray.empty).size ≤ 1048576 := by
  rw [List.getD_eq_getElem?_getD, List.getElem?_eq_getElem (show 0 < ls.length by omega)]
  have := hsz ls[0] (List.getElem_mem _)
  show ls[0].size ≤ _
  omega
 simp only [if_pos (show (0 : Int) < (ls.length : Int) by omega), h00, Zev _ 32 hg, Option.bind_some, show ((32 : UInt8).toNat : Int) = 32 from rfl]
 have hps := ZbN 32 (bytesOf (ls.getD 0 ByteArray.empty))
 rw [bytesOf_length] at hps
 generalize Zf 32 (bytesOf (ls.getD 0 ByteArray.empty)) = ps at hps
 have g0 : rdOf ByteArray.empty ps 0 = ps.getD 0 ByteArray.empty := Z3 ps 0
 have g1 : rdOf ByteArray.empty ps 1 = ps.getD 1 ByteArray.empty := Z3 ps 1
 have g2 : rdOf ByteArray.empty ps 2 = ps.getD 2 ByteArray.empty := Z3 ps 2
 have hlit : ((ps.getD 2 ByteArray.empty).toList = ([72, 84, 84, 80, 47, 49, 46, 49] : List UInt8)) ↔ bytesOf (ps.getD 2 ByteArray.empty) = Zag := Zr _ _
 have jbad : Ev (fun k => impl_readHead.j0 k ls ps true (⟨#[]⟩ : BA) (⟨#[]⟩ : BA) ([] : List S113) (⟨#[]⟩ : BA) (⟨#[]⟩ : BA) false 0 false false) (Zdb (stZ, 400)) := by
  apply ev_succ; simp only [impl_readHead.j0, if_true]; exact Ev.now _
 by_cases q0 : ps.length = 3
 ·simp only [if_pos (show (ps.length : Int) = 3 by omega), if_pos (show (2 : Int) < (ps.length : Int) by omega), g0, g1, g2]
  by_cases q1 : bytesOf (ps.getD 2 ByteArray.empty) = Zag
  ·simp only [if_pos (hlit.2 q1), if_pos (show (0 : Int) < (ps.length : Int) by omega), if_pos (show (1 : Int) < (ps.length : Int) by omega)]
   refine Ev.bind (ZaZ _ _ (Nat.le_trans (hps 0) hg) (Nat.le_trans (hps 1) hg)) ?_
   by_cases q2 : (Zv (ps.getD 0 ByteArray.empty) && Zj (ps.getD 1 ByteArray.empty)) = true
   ·rw [if_pos ⟨q0, q1, q2⟩, q2]
    apply ev_succ
    simp only [impl_readHead.j0, Bool.not_true, Bool.false_eq_true, if_false, if_pos (show (0 : Int) < (ps.length : Int) by omega), if_pos (show (1 : Int) < (ps.length : Int) by omega), if_pos (show (1 : Int) ≤ (ls.length : Int) by omega), Option.bind_some, g0, g1]
    have hd : ∀ x ∈ ls.drop 1, x.size ≤ 1048576 := fun x hx => by have := hsz x (List.mem_of_mem_drop hx); omega
    exact ZbM ls (ls.drop 1) hd (by rw [List.length_drop]; omega) _ 0 (ps.getD 0 ByteArray.empty, ps.getD 1 ByteArray.empty, [], ⟨#[]⟩, ⟨#[]⟩, false, 0, false, false) rfl (Nat.zero_le _) ⟨Nat.le_refl 0, fun x hx => absurd hx (by simp [ZC]), by simp only [Zb1]; decide, Int.le_refl 0⟩
   ·rw [if_neg (fun h => q2 h.2.2), Bool.not_eq_true _ |>.mp q2]; exact jbad
  ·simp only [if_neg (fun h => q1 (hlit.1 h))]
   rw [if_neg (fun h => q1 h.2.1)]; exact jbad
 ·simp only [if_neg (show ¬ (ps.length : Int) = 3 by omega)]
  rw [if_neg (fun h => q0 h.1)]; exact jbad
abbrev ZdA := BA × BA × List S113 × BA × Int × Int
def ZcB (c : Int) : ZdA := (⟨#[]⟩, ⟨#[]⟩, [], ⟨#[]⟩, 0, c)
def ZaS (l : List Int) (e : Nat) (m p : BA) (hs : List S113) (ch : Bool) (sz : Int) (code : Int) : ZdA :=
 if code ≠ 0 then ZcB code
 else if ch = true then
  (if (chR (l.length + 1) (l.drop e) []).2.2 = 0 then (m, p, hs, strOfNums (chR (l.length + 1) (l.drop e) []).1, (l.length : Int) - ((chR (l.length + 1) (l.drop e) []).2.1.length : Int), 0) else ZcB (chR (l.length + 1) (l.drop e) []).2.2)
 else if l.length < e + sz.toNat then ZcB 1
 else (m, p, hs, strOfNums ((l.drop e).take sz.toNat), ((e + sz.toNat : Nat) : Int), 0)
def ZV (l : List Int) : ZdA :=
 if Zc l < 0 then (if 400 < l.length then ZcB 431 else ZcB 1)
 else ZaS l (Zc l).toNat (rhS (l.take ((Zc l).toNat - 4))).1.1 (rhS (l.take ((Zc l).toNat - 4))).1.2.1 (ZC (rhS (l.take ((Zc l).toNat - 4))).1) (Zbe (rhS (l.take ((Zc l).toNat - 4))).1) (ZaI (rhS (l.take ((Zc l).toNat - 4))).1) (rhS (l.take ((Zc l).toNat - 4))).2
theorem Zdc (l : List Int) (hl : l.length ≤ 1048575) (hr : ∀ x ∈ l, 0 ≤ x ∧ x < 256) : StP 1048577 (rhS l).1 ∧ ((rhS l).2 = 0 → ZaI (rhS l).1 ≤ 200 ∧ (ZC (rhS l).1).length ≤ 8) ∧ (rhS l).2 ≠ 1 := by
 unfold rhS
 split
 ·have hsz := ZaR hr
  have hln := Zbc l
  have h := Zeu ((Ze l).drop 1) 0 ((Zf 32 (bytesOf ((Ze l).getD 0 ByteArray.empty))).getD 0 ByteArray.empty, (Zf 32 (bytesOf ((Ze l).getD 0 ByteArray.empty))).getD 1 ByteArray.empty, [], ⟨#[]⟩, ⟨#[]⟩, false, 0, false, false)
   ⟨Nat.le_refl 0, fun x hx => absurd hx (by simp [ZC]), by simp only [Zb1]; decide, Int.le_refl 0⟩ (fun x hx => by have := hsz x (List.mem_of_mem_drop hx); omega)
  rw [List.length_drop] at h
  simp only []
  generalize Zx ((Ze l).drop 1) ((Zf 32 (bytesOf ((Ze l).getD 0 ByteArray.empty))).getD 0 ByteArray.empty, (Zf 32 (bytesOf ((Ze l).getD 0 ByteArray.empty))).getD 1 ByteArray.empty, [], ⟨#[]⟩, ⟨#[]⟩, false, 0, false, false) = st at h
  refine ⟨⟨by have := h.1; omega, h.2⟩, ?_, ?_⟩
  ·unfold Z9
   split
   ·intro h; exact absurd h (by decide)
   ·split
    ·intro h; exact absurd h (by decide)
    ·split
     ·intro h; exact absurd h (by decide)
     ·split
      ·intro h; exact absurd h (by decide)
      ·intro _; exact ⟨by omega, by omega⟩
  ·unfold Z9
   repeat' split
   all_goals decide
 ·exact ⟨⟨Nat.zero_le _, fun x hx => absurd hx (by simp [ZC, stZ]), by simp only [Zb1, stZ]; decide, Int.le_refl 0⟩, fun h => absurd h (by decide), by decide⟩
theorem ZcR (l : List Int) (hl : l.length ≤ 1048575) (hr : ∀ x ∈ l, 0 ≤ x ∧ x < 256) : Ev (fun k => impl_GetReq.f k l) (ZV l) := by
 unfold impl_GetReq.f ZV
 rw [Zcc l hr]
 simp only [Option.bind_some]
 have hb := Za9 (l.take 400) 0
 have h4 := Zdr (l.take 400) 0
 rw [List.length_take] at hb h4
 change Zc l ≤ _ ∧ _ at hb
 change 0 ≤ Zc l → _ at h4
 by_cases q0 : Zc l < 0
 ·rw [if_pos q0]; simp only [if_pos q0]
  by_cases q1 : (l.length : Int) > 400
  ·rw [if_pos (show 400 < l.length by omega)]; simp only [if_pos q1]; exact Ev.now _
  ·rw [if_neg (show ¬ 400 < l.length by omega)]; simp only [if_neg q1]; exact Ev.now _
 rw [if_neg q0]; simp only [if_neg q0]
 have h44 : (4 : Int) ≤ Zc l := by have := (h4 (by omega)).1; change (0 : Int) + 4 ≤ Zc l at this; omega
 obtain ⟨e, he⟩ : ∃ e : Nat, Zc l = (e : Int) := ⟨(Zc l).toNat, by omega⟩
 rw [he] at hb h44
 simp only [he, Int.toNat_natCast]
 clear h4 q0
 have hw : wrap64 ((e : Int) - 4) = ((e - 4 : Nat) : Int) := by rw [wrap_id (by omega) (by omega)]; omega
 simp only [hw, if_pos (show (0 : Int) ≤ ((e - 4 : Nat) : Int) by omega), if_pos (show ((e - 4 : Nat) : Int) ≤ (l.length : Int) by omega), Int.toNat_natCast]
 have hrt : ∀ x ∈ l.take (e - 4), 0 ≤ x ∧ x < 256 := fun x hx => hr x (List.mem_of_mem_take hx)
 have hlt : (l.take (e - 4)).length ≤ 1048575 := by rw [List.length_take]; omega
 obtain ⟨hP, hP2, _⟩ := Zdc (l.take (e - 4)) hlt hrt
 have hrh := ZdP (l.take (e - 4)) (by omega) hrt
 generalize rhS (l.take (e - 4)) = r at hP hP2 hrh
 obtain ⟨⟨m, p, hs, b, co, ch, sz, td, bad⟩, code⟩ := r
 have hrh' : Ev (fun k => impl_readHead.f k (strOfNums (l.take (e - 4)))) (m, p, hs, b, co, ch, sz, td, bad, code) := hrh
 refine Ev.bind hrh' ?_
 have hs1 : (0 : Int) ≤ sz := hP.2.2.2
 have hs3 : code = 0 → sz ≤ 200 := fun h => (hP2 h).1
 clear hP hP2 hrh hrh'
 show Ev _ (ZaS l e m p hs ch sz code)
 unfold ZaS
 by_cases q1 : code = 0
 ·simp only [if_neg (show ¬ code ≠ 0 from fun h => h q1), if_pos q1]
  have hs2 := hs3 q1
  clear hs3
  cases ch with
  | true =>
   simp only [if_true]
   refine Ev.bind (ZaV l (by omega) hr e (by omega) (l.length + 1) (by rw [List.length_drop]; omega)) ?_
   generalize chR (l.length + 1) (l.drop e) [] = c
   obtain ⟨c0, c1, c2⟩ := c
   by_cases q2 : c2 = 0
   ·subst q2
    rw [Zdo]
    simp only [if_true]; exact Ev.now _
   ·rw [ZaU _ _ _ q2]
    simp only [if_neg q2]; exact Ev.now _
  | false =>
   simp only [Bool.false_eq_true, if_false]
   obtain ⟨z, hz⟩ : ∃ z : Nat, sz = (z : Int) := ⟨sz.toNat, by omega⟩
   subst hz
   have hw2 : wrap64 ((e : Int) + (z : Int)) = ((e + z : Nat) : Int) := by rw [wrap_id (by omega) (by omega)]; rfl
   simp only [hw2, Int.toNat_natCast]
   clear hw2 hs1 hs2 hw hb h44 hlt hrt hl hr he q1
   by_cases q2 : l.length < e + z
   ·rw [if_pos q2]
    simp only [if_pos (show ((e + z : Nat) : Int) > (l.length : Int) by omega), if_neg (show ¬ (1 : Int) = 0 by decide)]
    exact Ev.now _
   ·rw [if_neg q2]
    simp only [if_neg (show ¬ ((e + z : Nat) : Int) > (l.length : Int) by omega), if_pos (show (0 : Int) ≤ (e : Int) by omega), if_pos (show (e : Int) ≤ ((e + z : Nat) : Int) by omega), if_pos (show ((e + z : Nat) : Int) ≤ (l.length : Int) by omega)]
    have ed : (l.take (e + z)).drop e = (l.drop e).take z := by rw [List.drop_take, Nat.add_sub_cancel_left]
    rw [ed]
    exact Ev.now _
 ·simp only [if_pos (show code ≠ 0 from q1), if_neg q1]
  exact Ev.now _
def Zfm (r : ZdA) : Int := r.2.2.2.2.1
def Zdd (r : ZdA) : Int := r.2.2.2.2.2
theorem ZaO (c : Int) : Zdd (ZcB c) = c := rfl
abbrev Zam := BA × BA × List S113 × BA × Int × Int × List Int
def ZZ (s : BA) : Prop := drC 58 (bytesOf s) ≠ [] ∧ Zz (Za s) = true ∧ ZM (Zh s) = true
instance (s : BA) : Decidable (ZZ s) := by unfold ZZ; exact inferInstance
def Zu (s : BA) : Zam → Zam × Int := fun (m, p, hs, b, sz, td, co) =>
 if ZZ s then
  if bytesOf (Za s) = CLb then ((m, p, hs, b, (ZJ (Zh s) 9999999).1, td + 1, co), if (ZJ (Zh s) 9999999).2 = true then 0 else 400)
  else if bytesOf (Za s) = TEb then ((m, p, hs, b, -1, td + 1, if bytesOf (Zk (Zh s)) = CHb then co else co ++ [501]), 0)
  else ((m, p, hs ++ [⟨Za s, Zh s⟩], b, sz, td, if 8 < hs.length + 1 then co ++ [431] else co), 0)
 else ((m, p, hs, b, sz, td, co), 400)
def Zs : List BA → Zam → Zam × Int
 | [], f => (f, 0)
 | s :: r, f => if (Zu s f).2 = 0 then Zs r (Zu s f).1 else Zu s f
def Za0 (co : List Int) : Int := if 431 ∈ co then 431 else if 501 ∈ co then 501 else if 413 ∈ co then 413 else 0
structure FrR (m p : BA) (hs : List S113) (sz td : Int) (co : List Int) (m' p' : BA) (hs' : List S113) (cv : BA) (ch : Bool) (sz' : Int) (td' bad : Bool) : Prop where
 le : td ≤ 1
 ok : bad = false
 em : m = m'
 ep : p = p'
 eh : hs = hs'
 c1 : ch = true → sz = -1 ∧ (501 ∈ co ↔ bytesOf (Zk cv) ≠ CHb)
 c0 : ch = false → sz = sz' ∧ 501 ∉ co
 z0 : td' = false → sz' = 0
 xo : ¬ (ch = true ∧ td' = true)
 one : td = if (ch || td') = true then 1 else 0
 h8 : 431 ∈ co ↔ 8 < hs.length
 no : 413 ∉ co
def FrT (f : Zam) (st : Zm) : Prop :=
 0 ≤ f.2.2.2.2.2.1 ∧ ((1 < f.2.2.2.2.2.1 ∧ Zaa st = true) ∨ FrR f.1 f.2.1 f.2.2.1 f.2.2.2.2.1 f.2.2.2.2.2.1 f.2.2.2.2.2.2 st.1 st.2.1 st.2.2.1 st.2.2.2.2.1 st.2.2.2.2.2.1 st.2.2.2.2.2.2.1 st.2.2.2.2.2.2.2.1 st.2.2.2.2.2.2.2.2)
theorem ZcS (s : BA) (st : Zm) (h : Zaa st = true) : Zaa (Zw s st) = true := by
 obtain ⟨m, p, hs, b, co, ch, sz, td, bad⟩ := st
 simp only [Zaa] at h
 subst h
 unfold Zw Zaf Zaa
 simp only []
 split
 ·split
  ·split
   ·rfl
   ·split <;> simp
  ·rfl
 ·rfl
theorem ZdB : ∀ (ls : List BA) (st : Zm), Zaa st = true → Zaa (Zx ls st) = true
 | [], _, h => h
 | s :: r, st, h => ZdB r _ (ZcS s st h)
theorem Zfb (s : BA) (f : Zam) (st : Zm) (h : FrT f st) : ((Zu s f).2 = 0 → FrT (Zu s f).1 (Zw s st)) ∧ ((Zu s f).2 ≠ 0 → (Zu s f).2 = 400 ∧ Zaa (Zw s st) = true) := by
 obtain ⟨h0, h⟩ := h
 rcases h with ⟨h1, hb⟩ | h
 ·have hb' := ZcS s st hb
  obtain ⟨m, p, hs, b, sz, td, co⟩ := f
  simp only [] at h0 h1
  unfold Zu
  simp only []
  by_cases q : ZZ s
  ·simp only [if_pos q]
   by_cases q1 : bytesOf (Za s) = CLb
   ·simp only [if_pos q1]
    refine ⟨fun _ => ⟨by simp only []; omega, .inl ⟨by simp only []; omega, hb'⟩⟩, fun h => ?_⟩
    by_cases q2 : (ZJ (Zh s) 9999999).2 = true
    ·rw [if_pos q2] at h; exact absurd rfl h
    ·rw [if_neg q2]; exact ⟨rfl, hb'⟩
   ·simp only [if_neg q1]
    by_cases q2 : bytesOf (Za s) = TEb
    ·simp only [if_pos q2]
     exact ⟨fun _ => ⟨by simp only []; omega, .inl ⟨by simp only []; omega, hb'⟩⟩, fun h => absurd rfl h⟩
    ·simp only [if_neg q2]
     exact ⟨fun _ => ⟨h0, .inl ⟨h1, hb'⟩⟩, fun h => absurd rfl h⟩
  ·simp only [if_neg q]
   exact ⟨fun h => absurd h (by decide), fun _ => ⟨by simp, hb'⟩⟩
 ·obtain ⟨m, p, hs, b, sz, td, co⟩ := f
  obtain ⟨m', p', hs', b', cv, ch, sz', td', bad⟩ := st
  simp only [] at h0 h
  obtain ⟨le, ok, em, ep, eh, c1, c0, z0, xo, one, h8, no⟩ := h
  subst ok; subst em; subst ep; subst eh
  unfold Zu Zw
  simp only []
  by_cases q : ZZ s
  ·simp only [if_pos q]
   rw [if_pos (show drC 58 (bytesOf s) ≠ [] ∧ Zz (Za s) = true ∧ ZM (Zh s) = true from q)]
   by_cases q1 : bytesOf (Za s) = CLb
   ·simp only [if_pos q1]
    rw [if_pos (show bytesOf (Za s) = CLb ∨ bytesOf (Za s) = TEb from .inl q1)]
    have q2 : ¬ bytesOf (Za s) = TEb := by rw [q1]; decide
    unfold Zaf
    simp only []
    by_cases q3 : (ch || td') = true
    ·rw [if_pos q3] at one
     simp only [if_pos q3]
     refine ⟨fun _ => ⟨by simp only []; omega, .inl ⟨by simp only []; omega, rfl⟩⟩, fun h => ?_⟩
     by_cases q4 : (ZJ (Zh s) 9999999).2 = true
     ·rw [if_pos q4] at h; exact absurd rfl h
     ·rw [if_neg q4]; exact ⟨rfl, rfl⟩
    ·rw [if_neg q3] at one
     simp only [if_neg q3, if_neg q2]
     simp only [Bool.or_eq_true, not_or, Bool.not_eq_true] at q3
     obtain ⟨rfl, rfl⟩ := q3
     by_cases q4 : (ZJ (Zh s) 9999999).2 = true
     ·rw [if_pos q4]
      refine ⟨fun _ => ⟨by simp only []; omega, .inr ⟨by simp only []; omega, by simp [q4], rfl, rfl, rfl, fun h => absurd h (by simp), fun _ => ⟨rfl, (c0 rfl).2⟩, fun h => absurd h (by simp), fun h => absurd h.1 (by simp), by simp only []; rw [one]; rfl, h8, no⟩⟩, fun h => absurd rfl h⟩
     ·rw [if_neg q4]
      exact ⟨fun h => absurd h (by decide), fun _ => ⟨rfl, by simp [Zaa, q4]⟩⟩
   ·simp only [if_neg q1]
    by_cases q2 : bytesOf (Za s) = TEb
    ·simp only [if_pos q2]
     rw [if_pos (show bytesOf (Za s) = CLb ∨ bytesOf (Za s) = TEb from .inr q2)]
     unfold Zaf
     simp only []
     refine ⟨fun _ => ?_, fun h => absurd rfl h⟩
     by_cases q3 : (ch || td') = true
     ·rw [if_pos q3] at one
      simp only [if_pos q3]
      exact ⟨by simp only []; omega, .inl ⟨by simp only []; omega, rfl⟩⟩
     ·rw [if_neg q3] at one
      simp only [if_neg q3, if_pos q2]
      simp only [Bool.or_eq_true, not_or, Bool.not_eq_true] at q3
      obtain ⟨rfl, rfl⟩ := q3
      have n5 := (c0 rfl).2
      refine ⟨by simp only []; omega, .inr ⟨by simp only []; omega, rfl, rfl, rfl, rfl, fun _ => ⟨rfl, ?_⟩, fun h => absurd h (by simp), fun _ => z0 rfl, fun h => absurd h.2 (by simp), by simp only []; rw [one]; rfl, ?_, ?_⟩⟩
      ·by_cases q4 : bytesOf (Zk (Zh s)) = CHb
       ·simp [q4, n5]
       ·simp [q4]
      ·by_cases q4 : bytesOf (Zk (Zh s)) = CHb
       ·simp [q4, h8]
       ·simp [q4, h8]
      ·by_cases q4 : bytesOf (Zk (Zh s)) = CHb
       ·simp [q4, no]
       ·simp [q4, no]
    ·simp only [if_neg q2]
     rw [if_neg (show ¬ (bytesOf (Za s) = CLb ∨ bytesOf (Za s) = TEb) from fun h => h.elim q1 q2)]
     refine ⟨fun _ => ⟨h0, .inr ⟨le, rfl, rfl, rfl, rfl, fun h => ⟨(c1 h).1, ?_⟩, fun h => ⟨(c0 h).1, ?_⟩, z0, xo, one, ?_, ?_⟩⟩, fun h => absurd rfl h⟩
     ·by_cases q4 : 8 < hs.length + 1
      ·simp [q4, (c1 h).2]
      ·simp [q4, (c1 h).2]
     ·by_cases q4 : 8 < hs.length + 1
      ·simp [q4, (c0 h).2]
      ·simp [q4, (c0 h).2]
     ·by_cases q4 : 8 < hs.length + 1
      ·simp [q4]
      ·have : ¬ 8 < hs.length := by omega
       simp [q4, h8, this]
     ·by_cases q4 : 8 < hs.length + 1
      ·simp [q4, no]
      ·simp [q4, no]
  ·simp only [if_neg q]
   rw [if_neg (show ¬ (drC 58 (bytesOf s) ≠ [] ∧ Zz (Za s) = true ∧ ZM (Zh s) = true) from q)]
   exact ⟨fun h => absurd h (by decide), fun _ => ⟨by simp, rfl⟩⟩
theorem ZdC : ∀ (ls : List BA) (f : Zam) (st : Zm), FrT f st → ((Zs ls f).2 = 0 → FrT (Zs ls f).1 (Zx ls st)) ∧ ((Zs ls f).2 ≠ 0 → (Zs ls f).2 = 400 ∧ Zaa (Zx ls st) = true)
 | [], f, st, h => ⟨fun _ => h, fun h => absurd rfl h⟩
 | s :: r, f, st, h => by
  obtain ⟨h1, h2⟩ := Zfb s f st h
  unfold Zs
  by_cases q : (Zu s f).2 = 0
  ·rw [if_pos q]; exact ZdC r _ _ (h1 q)
  ·rw [if_neg q]
   obtain ⟨h3, h4⟩ := h2 q
   exact ⟨fun h => absurd h q, fun _ => ⟨h3, ZdB r _ h4⟩⟩
def Zcq (r : Zam × Int) : Int := if r.2 = 0 then (if 1 < r.1.2.2.2.2.2.1 then 400 else Za0 (if 200 < r.1.2.2.2.2.1 then r.1.2.2.2.2.2.2 ++ [413] else r.1.2.2.2.2.2.2)) else r.2
theorem ZeT (ls : List BA) (f : Zam) (st : Zm) (h : FrT f st) : Zcq (Zs ls f) = Z9 (Zx ls st) ∧ (Zcq (Zs ls f) = 0 → (Zs ls f).1.1 = (Zx ls st).1 ∧ (Zs ls f).1.2.1 = (Zx ls st).2.1 ∧ (Zs ls f).1.2.2.1 = ZC (Zx ls st) ∧ (Zbe (Zx ls st) = true → (Zs ls f).1.2.2.2.2.1 = -1) ∧ (Zbe (Zx ls st) = false → (Zs ls f).1.2.2.2.2.1 = ZaI (Zx ls st))) := by
 obtain ⟨h1, h2⟩ := ZdC ls f st h
 generalize Zs ls f = F at h1 h2
 generalize Zx ls st = S at h1 h2
 obtain ⟨⟨m, p, hs, b, sz, td, co⟩, c⟩ := F
 obtain ⟨m', p', hs', b', cv, ch, sz', td', bad⟩ := S
 simp only [FrT, Zaa] at h1 h2
 rw [Zbz]
 simp only [Zcq, ZC, Zbe, ZaI]
 by_cases q : c = 0
 ·simp only [if_pos q]
  obtain ⟨h0, h⟩ := h1 q
  rcases h with ⟨h9, rfl⟩ | ⟨le, ok, em, ep, eh, c1, c0, z0, xo, one, h8, no⟩
  ·rw [if_pos h9, if_pos rfl]; exact ⟨rfl, fun h => absurd h (by decide)⟩
  ·subst ok; subst em; subst ep; subst eh
   rw [if_neg (show ¬ 1 < td by omega), if_neg (show ¬ false = true by decide)]
   refine ⟨?_, fun _ => ⟨rfl, rfl, rfl, fun h => (c1 h).1, fun h => (c0 h).1⟩⟩
   ·unfold Za0
    by_cases q1 : 8 < hs.length
    ·have : (431 : Int) ∈ (if 200 < sz then co ++ [413] else co) := by split <;> simp [h8.2 q1]
     rw [if_pos this, if_pos q1]
    ·have n4 : (431 : Int) ∉ co := fun h => q1 (h8.1 h)
     have : (431 : Int) ∉ (if 200 < sz then co ++ [413] else co) := by split <;> simp [n4]
     rw [if_neg this, if_neg q1]
     cases ch with
     | true =>
      obtain ⟨e1, e5⟩ := c1 rfl
      have z1 : td' = false := by cases td' with | true => exact absurd ⟨rfl, rfl⟩ xo | false => rfl
      have z2 := z0 z1
      rw [if_neg (show ¬ 200 < sz by omega)]
      by_cases q2 : bytesOf (Zk cv) ≠ CHb
      ·rw [if_pos (e5.2 q2), if_pos ⟨rfl, q2⟩]
      ·rw [if_neg (fun h => q2 (e5.1 h)), if_neg no, if_neg (fun h => q2 h.2), if_neg (show ¬ 200 < sz' by omega)]
     | false =>
      obtain ⟨e1, e5⟩ := c0 rfl
      subst e1
      rw [if_neg (show ¬ (false = true ∧ bytesOf (Zk cv) ≠ CHb) from fun h => absurd h.1 (by decide))]
      by_cases q2 : 200 < sz
      ·simp [q2, e5]
      ·simp [q2, e5, no]
 ·simp only [if_neg q]
  obtain ⟨h3, rfl⟩ := h2 q
  rw [if_pos rfl]
  exact ⟨h3, fun h => absurd h (by omega)⟩
theorem Zew (m p : BA) : FrT (m, p, [], ⟨#[]⟩, 0, 0, []) (m, p, [], ⟨#[]⟩, ⟨#[]⟩, false, 0, false, false) :=
 ⟨by simp only []; omega, .inr ⟨by simp only []; omega, rfl, rfl, rfl, rfl, fun h => absurd h (by simp), fun _ => ⟨rfl, by simp⟩, fun _ => rfl, fun h => absurd h.1 (by simp), rfl, by simp, by simp⟩⟩
theorem Zex {s : BA} {i : Nat} {c : Int} {r : List Int} (h : (bytesOf s).drop i = c :: r) : bt s (i : Int) = c := (bt_drop h).1
theorem Zcr (s : BA) (hs : s.size ≤ 1048576) : Ev (fun k => spec_l3Lines.f k s) (Ze (bytesOf s)) := by
 have key : ∀ (n i st : Nat) (acc : List BA), s.size - i ≤ n → st ≤ i → i ≤ s.size → acc.length ≤ i → Ev (fun k => spec_l3Lines.l0 k s acc (st : Int) (i : Int)) (acc ++ (Zo (((bytesOf s).take i).drop st) ((bytesOf s).drop i)).map strOfNums) := by
  intro n
  induction n using Nat.strongRecOn with
  | _ n ih =>
   intro i st acc hn hst hi hac
   have hw1 : wrap64 ((i : Int) + 1) = ((i + 1 : Nat) : Int) := by rw [wrap_id (by omega) (by omega)]; rfl
   have hw2 : wrap64 ((i : Int) + 2) = ((i + 2 : Nat) : Int) := by rw [wrap_id (by omega) (by omega)]; rfl
   have hw11 : wrap64 (((i + 1 : Nat) : Int) + 1) = ((i + 2 : Nat) : Int) := by rw [wrap_id (by omega) (by omega)]; rfl
   have a1 : (i : Int) ≤ (s.size : Int) := by omega
   have a3 : (0 : Int) ≤ (st : Int) := by omega
   have a4 : (st : Int) ≤ (i : Int) := by omega
   have a5 : acc.length < 8796093022208 := by omega
   have a7 : (0 : Int) ≤ (i : Int) := by omega
   have a8 : (0 : Int) ≤ ((i + 1 : Nat) : Int) := by omega
   have a9 : (st : Int) ≤ (s.size : Int) := by omega
   have e : s.extract st i = strOfNums (((bytesOf s).take i).drop st) := by rw [← bytesOf_extract, strOfNums_bytesOf]
   apply ev_succ
   simp only [spec_l3Lines.l0, if_pos a1, hw1, hw2, hw11, Int.toNat_natCast]
   by_cases q : i = s.size
   ·subst q
    have b1 : ¬ ((s.size + 1 : Nat) : Int) ≤ (s.size : Int) := by omega
    simp only [if_true, if_pos a3, if_pos a4, if_pos a5]
    apply ev_succ
    simp only [spec_l3Lines.l0, if_neg b1]
    have hnil : (bytesOf s).drop s.size = [] := List.drop_eq_nil_of_le (by rw [bytesOf_length]; exact Nat.le_refl _)
    rw [hnil, Zo, e]
    exact Ev.now _
   ·have hlt : i < s.size := by omega
    have hlb : i < (bytesOf s).length := by rw [bytesOf_length]; exact hlt
    have hd : (bytesOf s).drop i = (bytesOf s)[i] :: (bytesOf s).drop (i + 1) := List.drop_eq_getElem_cons hlb
    have hb := Zex hd
    have hsn := Zd7 hd hst
    simp only [if_neg (show ¬ (i : Int) = (s.size : Int) by omega)]
    have next : ∀ c, bt s (i : Int) = c → (¬ (c = 13 ∧ ∃ r, (bytesOf s).drop (i + 1) = 10 :: r)) → Ev (fun k => spec_l3Lines.l0 k s acc (st : Int) ((i + 1 : Nat) : Int)) (acc ++ (Zo (((bytesOf s).take i).drop st) ((bytesOf s).drop i)).map strOfNums) := by
     intro c hc hno
     rw [hb] at hc
     have := ih (n - 1) (by omega) (i + 1) st acc (by omega) (by omega) (by omega) (by omega)
     rw [hsn] at this
     rw [hd]
     have e2 : Zo (((bytesOf s).take i).drop st) ((bytesOf s)[i] :: (bytesOf s).drop (i + 1)) = Zo (((bytesOf s).take i).drop st ++ [(bytesOf s)[i]]) ((bytesOf s).drop (i + 1)) := by
      cases hr : (bytesOf s).drop (i + 1) with
      | nil => rw [Zo, Zo]
      | cons d t => rw [Zo, if_neg (fun hq => hno ⟨hc ▸ hq.1, t, by rw [hr, hq.2]⟩)]
     rw [e2]; exact this
    refine ev_ite (fun q1 => ?_) (fun q1 => ?_)
    ·simp only [if_pos a7, if_pos (show (i : Int) < (s.size : Int) by omega)]
     refine ev_ite (fun q2 => ?_) (fun q2 => ?_)
     ·have hlb2 : i + 1 < (bytesOf s).length := by rw [bytesOf_length]; omega
      have hd2 : (bytesOf s).drop (i + 1) = (bytesOf s)[i + 1] :: (bytesOf s).drop (i + 1 + 1) := List.drop_eq_getElem_cons hlb2
      have hb2 := Zex hd2
      simp only [if_pos a8]
      refine ev_ite (fun q3 => ?_) (fun q3 => ?_)
      ·simp only [if_pos a3, if_pos a4, if_pos a5]
       have := ih (n - 2) (by omega) (i + 2) (i + 2) (acc ++ [s.extract st i]) (by omega) (Nat.le_refl _) (by omega) (by simp; omega)
       have e3 : ((bytesOf s).take (i + 2)).drop (i + 2) = [] := List.drop_eq_nil_of_le (by rw [List.length_take]; exact Nat.min_le_left _ _)
       rw [e3, e] at this
       rw [hd, hd2]
       rw [hb] at q2
       rw [hb2] at q3
       rw [Zo, if_pos ⟨q2, q3⟩, e]
       simpa using this
      ·refine next _ rfl (fun hq => q3 ?_)
       obtain ⟨_, r, hr⟩ := hq
       rw [hb2, List.cons.inj (hd2.symm.trans hr) |>.1]
     ·exact next _ rfl (fun hq => q2 hq.1)
    ·refine next _ rfl (fun hq => ?_)
     obtain ⟨_, r, hr⟩ := hq
     have := congrArg List.length hr
     rw [List.length_drop, bytesOf_length, List.length_cons] at this
     omega
 have := key s.size 0 0 [] (by omega) (Nat.le_refl _) (Nat.zero_le _) (Nat.le_refl _)
 unfold spec_l3Lines.f Ze
 simpa using this
theorem Zbl (s : BA) (hs : s.size ≤ 1048576) : Ev (fun k => spec_Lower.f k s) (Zk s) := by
 have := str_loop_st s (fun i (x : List Int) k => spec_Lower.l0 k s x (i : Int)) (fun i x r => strOfNums (x ++ ZY r)) (fun i x _ => x.length ≤ i) ?_ ?_ (by omega) 0 [] (by simp)
 ·have h2 : Ev (fun k => spec_Lower.l0 k s [] 0) (Zk s) := by simpa [Zk] using this
  exact h2
 ·intro i x _ hi
  apply ev_succ; simp only [spec_Lower.l0, if_neg (show ¬ (i : Int) < s.size by omega)]
  simpa [ZY] using Ev.now _
 ·intro i x c r hx h hb hi hw hw1 ih
  have hc := bytesOf_range s c (List.mem_of_mem_drop (by rw [h]; simp))
  apply ev_succ
  simp only [spec_Lower.l0, if_pos (show (i : Int) < s.size by omega), if_pos (show (0 : Int) ≤ i by omega), hb, Zcn c hw, Option.bind_some, hw1, if_pos (show x.length < 140737488355328 by omega)]
  have fin := ih (x ++ [ZX c]) (by simp; omega)
  simp only [List.append_assoc, List.cons_append, List.nil_append] at fin
  refine ev_ite (fun q => ?_) (fun q => ?_)
  ·rw [Zdv hc q]; exact fin
  ·rw [show c = ZX c by unfold ZX; rw [if_neg q]]
   have : ZX (ZX c) = ZX c := by rw [show ZX c = c by unfold ZX; rw [if_neg q]]; unfold ZX; rw [if_neg q]
   simpa [ZY, this] using fin
theorem Zfn {α : Type} {g : Nat → Option α} {a b : α} (h : Ev g a) (k : Ev g b) : a = b := by
 obtain ⟨n, hn⟩ := h
 obtain ⟨m, hm⟩ := k
 have h1 := hn (n + m) (by omega)
 have h2 := hm (n + m) (by omega)
 rw [h1] at h2
 exact Option.some.inj h2
theorem ZeU (x0 x1 : List Int) (h0 : x0.length ≤ 1099511627776) (i : Nat) (hi : i < x1.length) (hl : x1.length ≤ 100) (R : Int) (hR : Ev (fun k => spec_l3Least.l0 k x0 x1 ((i + 1 : Nat) : Int)) R) :
  ∀ (n j : Nat), x0.length - j = n → j ≤ x0.length → Ev (fun k => spec_l3Least.l1 k x0 x1 (i : Int) (j : Int)) (if rd x1 (i : Int) ∈ x0.drop j then rd x1 (i : Int) else R) := by
 have hw : wrap64 ((i : Int) + 1) = ((i + 1 : Nat) : Int) := by rw [wrap_id (by omega) (by omega)]; rfl
 intro n
 induction n with
 | zero =>
  intro j hn hj
  rw [List.drop_eq_nil_of_le (by omega), if_neg (by simp)]
  apply ev_succ
  simp only [spec_l3Least.l1, if_neg (show ¬ (j : Int) < (x0.length : Int) by omega), hw]
  exact hR
 | succ n ih =>
  intro j hn hj
  have hjl : j < x0.length := by omega
  have hd : x0.drop j = x0[j] :: x0.drop (j + 1) := List.drop_eq_getElem_cons hjl
  obtain ⟨hr, _, _⟩ := ZaT hd
  have hw2 : wrap64 ((j : Int) + 1) = ((j + 1 : Nat) : Int) := by rw [wrap_id (by omega) (by omega)]; rfl
  have ih' := ih (j + 1) (by omega) (by omega)
  apply ev_succ
  simp only [spec_l3Least.l1, if_pos (show (j : Int) < (x0.length : Int) by omega), if_pos (show (0 : Int) ≤ (j : Int) by omega), if_pos (show (0 : Int) ≤ (i : Int) by omega), if_pos (show (i : Int) < (x1.length : Int) by omega), hw2, hr]
  rw [hd]
  by_cases q : x0[j] = rd x1 (i : Int)
  ·simp only [if_pos q]
   rw [if_pos (by rw [← q]; exact List.mem_cons_self)]
   exact Ev.now _
  ·simp only [if_neg q]
   by_cases q1 : rd x1 (i : Int) ∈ x0.drop (j + 1)
   ·rw [if_pos q1] at ih'
    rw [if_pos (List.mem_cons_of_mem _ q1)]; exact ih'
   ·rw [if_neg q1] at ih'
    rw [if_neg (fun h => by rcases List.mem_cons.1 h with h | h; exact q h.symm; exact q1 h)]; exact ih'
theorem ZdD (co : List Int) (h0 : co.length ≤ 1099511627776) : Ev (fun k => spec_l3Least.f k co [431, 501, 413]) (Za0 co) := by
 have e3 : Ev (fun k => spec_l3Least.l0 k co [431, 501, 413] ((2 + 1 : Nat) : Int)) 0 := by
  apply ev_succ; simp only [spec_l3Least.l0]; exact Ev.now _
 have st : ∀ (i : Nat) (R : Int), i < 3 → Ev (fun k => spec_l3Least.l0 k co [431, 501, 413] ((i + 1 : Nat) : Int)) R → Ev (fun k => spec_l3Least.l0 k co [431, 501, 413] (i : Int)) (if rd [431, 501, 413] (i : Int) ∈ co then rd [431, 501, 413] (i : Int) else R) := by
  intro i R hi hR
  have := ZeU co [431, 501, 413] h0 i hi (by decide) R hR _ 0 rfl (Nat.zero_le _)
  rw [List.drop_zero] at this
  apply ev_succ
  simp only [spec_l3Least.l0, if_pos (show (i : Int) < (([431, 501, 413] : List Int).length : Int) by simp only [List.length_cons, List.length_nil]; omega)]
  exact this
 exact st 0 _ (by decide) (st 1 _ (by decide) (st 2 _ (by decide) e3))
abbrev FrO := Int × BA × BA × List S113 × BA × Int × Int × List Int
def ZbJ (r : Zam × Int) : FrO := (r.2, r.1)
theorem Zey (s m p : BA) (hs : List S113) (b : BA) (sz td : Int) (co : List Int) (hz : s.size ≤ 1048576) (hl : hs.length ≤ 1048577) (ht : 0 ≤ td) (ht2 : td ≤ 1099511627776) (hc : co.length ≤ 1099511627776) :
  Ev (fun k => spec_l3Head.f k m p hs b sz td co s) (ZbJ (Zu s (m, p, hs, b, sz, td, co))) := by
 have hlen := ZaX 58 (bytesOf s)
 rw [bytesOf_length] at hlen
 have hap := Zcg 58 (bytesOf s)
 have hno := Zer 58 (bytesOf s)
 have hw1 : wrap64 (td + 1) = td + 1 := wrap_id (by omega) (by omega)
 have sl : (Za s).size ≤ 1048576 := Zcp s _ hz
 have st : (Zh s).size ≤ 1048576 := ZcQ s _ hz
 have jbad : Ev (fun k => spec_l3Head.j2 k true m p hs b sz td co (Za s) (Zh s)) (400, m, p, hs, b, sz, td, co) := by
  apply ev_succ; simp only [spec_l3Head.j2, if_true]; exact Ev.now _
 have hCL : ((Za s).toList = ([99, 111, 110, 116, 101, 110, 116, 45, 108, 101, 110, 103, 116, 104] : List UInt8)) ↔ bytesOf (Za s) = CLb := Zr _ _
 have hTE : ((Za s).toList = ([116, 114, 97, 110, 115, 102, 101, 114, 45, 101, 110, 99, 111, 100, 105, 110, 103] : List UInt8)) ↔ bytesOf (Za s) = TEb := Zr _ _
 have hCH : ((Zk (Zh s)).toList = ([99, 104, 117, 110, 107, 101, 100] : List UInt8)) ↔ bytesOf (Zk (Zh s)) = CHb := Zr _ _
 have jgood : ZZ s → Ev (fun k => spec_l3Head.j2 k false m p hs b sz td co (Za s) (Zh s)) (ZbJ (Zu s (m, p, hs, b, sz, td, co))) := by
  intro q
  unfold Zu
  simp only [if_pos q]
  apply ev_succ
  simp only [spec_l3Head.j2, Bool.false_eq_true, if_false, hw1]
  by_cases q1 : bytesOf (Za s) = CLb
  ·simp only [if_pos q1, if_pos (hCL.2 q1)]
   refine Ev.bind (ZbW (Zh s) 9999999 (by omega)) ?_
   by_cases q2 : (ZJ (Zh s) 9999999).2 = true
   ·simp only [if_pos q2]; exact Ev.now _
   ·simp only [if_neg q2]; exact Ev.now _
  ·simp only [if_neg q1, if_neg (fun h => q1 (hCL.1 h))]
   by_cases q2 : bytesOf (Za s) = TEb
   ·simp only [if_pos q2, if_pos (hTE.2 q2)]
    refine Ev.bind (Zbl (Zh s) (by omega)) ?_
    by_cases q3 : bytesOf (Zk (Zh s)) = CHb
    ·simp only [if_pos q3, if_pos (hCH.2 q3)]; exact Ev.now _
    ·simp only [if_neg q3, if_neg (fun h => q3 (hCH.1 h)), if_pos (show co.length < 17592186044416 by omega)]; exact Ev.now _
   ·simp only [if_neg q2, if_neg (fun h => q2 (hTE.1 h)), if_pos (show hs.length < 4398046511104 by omega), Option.bind_some, List.length_append, List.length_cons, List.length_nil]
    by_cases q3 : 8 < hs.length + 1
    ·simp only [if_pos q3, if_pos (show (((hs.length + (0 + 1) : Nat)) : Int) > 8 by omega), if_pos (show co.length < 17592186044416 by omega)]; exact Ev.now _
    ·simp only [if_neg q3, if_neg (show ¬ (((hs.length + (0 + 1) : Nat)) : Int) > 8 by omega)]; exact Ev.now _
 have hj1 : Ev (fun k => spec_l3Head.j1 k s ((tkC 58 (bytesOf s)).length : Int) m p hs b sz td co) (ZbJ (Zu s (m, p, hs, b, sz, td, co))) := by
  apply ev_succ
  simp only [spec_l3Head.j1]
  by_cases q0 : drC 58 (bytesOf s) = []
  ·rw [q0, List.length_nil] at hlen
   simp only [if_pos (show ((tkC 58 (bytesOf s)).length : Int) = (s.size : Int) by omega)]
   unfold Zu
   simp only [if_neg (show ¬ ZZ s from fun h => h.1 q0)]
   exact Ev.now _
  ·have hpos : 0 < (drC 58 (bytesOf s)).length := by
    cases h : drC 58 (bytesOf s) with
    | nil => exact absurd h q0
    | cons _ _ => simp
   have hw2 : wrap64 (((tkC 58 (bytesOf s)).length : Int) + 1) = (((tkC 58 (bytesOf s)).length + 1 : Nat) : Int) := by rw [wrap_id (by omega) (by omega)]; rfl
   have e1 : s.extract 0 (tkC 58 (bytesOf s)).length = strOfNums (tkC 58 (bytesOf s)) := by
    rw [← strOfNums_bytesOf (s.extract 0 _), bytesOf_extract, List.drop_zero]
    congr 1
    rw [← hap]
    have : (tkC 58 (tkC 58 (bytesOf s) ++ drC 58 (bytesOf s))) = tkC 58 (bytesOf s) := by rw [hap]
    rw [this, List.take_left]
   have e2 : s.extract ((tkC 58 (bytesOf s)).length + 1) s.size = strOfNums (drC 58 (bytesOf s)).tail := by
    rw [← strOfNums_bytesOf (s.extract _ _), bytesOf_extract, List.take_of_length_le (by rw [bytesOf_length]; exact Nat.le_refl _)]
    congr 1
    have h9 : (bytesOf s).drop ((tkC 58 (bytesOf s)).length + 1) = (tkC 58 (bytesOf s) ++ drC 58 (bytesOf s)).drop ((tkC 58 (bytesOf s)).length + 1) := by rw [hap]
    rw [h9, ← List.drop_drop, List.drop_left, List.drop_one]
   simp only [if_neg (show ¬ ((tkC 58 (bytesOf s)).length : Int) = (s.size : Int) by omega), if_pos (show (0 : Int) ≤ ((tkC 58 (bytesOf s)).length : Int) by omega), if_pos (show ((tkC 58 (bytesOf s)).length : Int) ≤ (s.size : Int) by omega), hw2, if_pos (show (0 : Int) ≤ (((tkC 58 (bytesOf s)).length + 1 : Nat) : Int) by omega), if_pos (show (((tkC 58 (bytesOf s)).length + 1 : Nat) : Int) ≤ (s.size : Int) by omega), Int.toNat_natCast, e1, e2]
   have za : (strOfNums (tkC 58 (bytesOf s))).size ≤ 1048576 := by rw [strOfNums_size]; omega
   have zv : (strOfNums (drC 58 (bytesOf s)).tail).size ≤ 1048576 := by rw [strOfNums_size, List.length_tail]; omega
   have h1 := Zbl _ za
   have h2 := Zbw _ zv
   have el : Zk (strOfNums (tkC 58 (bytesOf s))) = Za s := by unfold Za; rfl
   have et : Z6 (strOfNums (drC 58 (bytesOf s)).tail) = Zh s := by unfold Zh; rfl
   rw [el] at h1
   rw [et] at h2
   refine Ev.bind h1 (Ev.bind h2 ?_)
   refine Ev.bind (Zay (Za s) (by omega)) ?_
   by_cases q1 : Zz (Za s) = true
   ·simp only [if_pos q1]
    refine Ev.bind (Zbj (Zh s) st) ?_
    by_cases q2 : ZM (Zh s) = true
    ·rw [q2]; exact jgood ⟨q0, q1, q2⟩
    ·rw [Bool.not_eq_true _ |>.mp q2]
     unfold Zu
     simp only [if_neg (show ¬ ZZ s from fun h => q2 h.2.2)]
     exact jbad
   ·simp only [if_neg q1]
    unfold Zu
    simp only [if_neg (show ¬ ZZ s from fun h => q1 h.2.1)]
    exact jbad
 have key : ∀ (n i : Nat), (tkC 58 (bytesOf s)).length - i = n → i ≤ (tkC 58 (bytesOf s)).length → Ev (fun k => spec_l3Head.l0 k s (i : Int) m p hs b sz td co) (ZbJ (Zu s (m, p, hs, b, sz, td, co))) := by
  intro n
  induction n with
  | zero =>
   intro i hn hi
   have hi' : i = (tkC 58 (bytesOf s)).length := by omega
   apply ev_succ
   simp only [spec_l3Head.l0]
   by_cases q : (i : Int) < (s.size : Int)
   ·have hd : (bytesOf s).drop i = drC 58 (bytesOf s) := by
     have h9 : (bytesOf s).drop i = (tkC 58 (bytesOf s) ++ drC 58 (bytesOf s)).drop i := by rw [hap]
     rw [h9, hi', List.drop_left]
    cases h : drC 58 (bytesOf s) with
    | nil => rw [h, List.length_nil] at hlen; omega
    | cons c r =>
     have hc58 := ZeO h
     subst hc58
     have hb := (bt_drop (hd.trans h)).1
     simp only [if_pos q, if_pos (show (0 : Int) ≤ (i : Int) by omega), hb, if_true]
     rw [hi']; exact hj1
   ·simp only [if_neg q]
    rw [hi']; exact hj1
  | succ n ih =>
   intro i hn hi
   have ih' := ih (i + 1) (by omega) (by omega)
   have hil : i < (bytesOf s).length := by rw [bytesOf_length]; omega
   have hd : (bytesOf s).drop i = (bytesOf s)[i] :: (bytesOf s).drop (i + 1) := List.drop_eq_getElem_cons hil
   have hb := (bt_drop hd).1
   have hne : (bytesOf s)[i] ≠ 58 := by
    intro e
    have hit : i < (tkC 58 (bytesOf s)).length := by omega
    have h9 : (tkC 58 (bytesOf s) ++ drC 58 (bytesOf s))[i]? = some 58 := by rw [hap, List.getElem?_eq_getElem hil, e]
    rw [List.getElem?_append_left hit] at h9
    exact hno (List.mem_of_getElem? h9)
   have hw2 : wrap64 ((i : Int) + 1) = ((i + 1 : Nat) : Int) := by clear ht ht2 hc hl hw1 sl st hlen hn hb hne hd; rw [bytesOf_length] at hil; rw [wrap_id (by omega) (by omega)]; rfl
   have his : (i : Int) < (s.size : Int) := by rw [bytesOf_length] at hil; exact Int.ofNat_lt.2 hil
   apply ev_succ
   simp only [spec_l3Head.l0, if_pos his, if_pos (Int.natCast_nonneg i), hw2]
   simp only [hb, if_neg hne]
   exact ih'
 exact key _ 0 rfl (Nat.zero_le _)
def FrB (n : Nat) (f : Zam) : Prop := f.2.2.1.length ≤ n ∧ 0 ≤ f.2.2.2.2.2.1 ∧ f.2.2.2.2.2.1 ≤ n ∧ f.2.2.2.2.2.2.length ≤ n
theorem Zfc (s : BA) (n : Nat) (f : Zam) (h : FrB n f) : FrB (n + 1) (Zu s f).1 := by
 obtain ⟨m, p, hs, b, sz, td, co⟩ := f
 obtain ⟨h1, h2, h3, h4⟩ := h
 simp only [] at h1 h2 h3 h4
 unfold Zu
 simp only []
 split
 ·split
  ·exact ⟨by simp only []; omega, by simp only []; omega, by simp only []; omega, by simp only []; omega⟩
  ·split
   ·refine ⟨by simp only []; omega, by simp only []; omega, by simp only []; omega, ?_⟩
    simp only []
    split
    ·omega
    ·rw [List.length_append, List.length_singleton]; omega
   ·refine ⟨by simp only [List.length_append, List.length_singleton]; omega, by simp only []; omega, by simp only []; omega, ?_⟩
    simp only []
    split
    ·rw [List.length_append, List.length_singleton]; omega
    ·omega
 ·exact ⟨by simp only []; omega, by simp only []; omega, by simp only []; omega, by simp only []; omega⟩
theorem Zez (m p : BA) (hs : List S113) (b : BA) (sz td : Int) (co : List Int) : Zcq (Zs [] (m, p, hs, b, sz, td, co)) = if 1 < td then 400 else Za0 (if 200 < sz then co ++ [413] else co) := rfl
theorem ZeA (ls : List BA) (hx : ∀ x ∈ ls, x.size ≤ 1048576) (hn : ls.length ≤ 1048577) : ∀ (n i : Nat) (f : Zam), ls.length - i = n → i ≤ ls.length → FrB i f →
  ∃ r : FrO, Ev (fun k => spec_l3Read.l0 k ls (i : Int) f.1 f.2.1 f.2.2.1 f.2.2.2.1 f.2.2.2.2.1 f.2.2.2.2.2.1 f.2.2.2.2.2.2) r ∧ r.1 = Zcq (Zs (ls.drop i) f) ∧ (r.1 = 0 → r.2.1 = (Zs (ls.drop i) f).1.1 ∧ r.2.2.1 = (Zs (ls.drop i) f).1.2.1 ∧ r.2.2.2.1 = (Zs (ls.drop i) f).1.2.2.1 ∧ r.2.2.2.2.2.1 = (Zs (ls.drop i) f).1.2.2.2.2.1) := by
 intro n
 induction n with
 | zero =>
  intro i f hn1 hi hB
  obtain ⟨m, p, hs, b, sz, td, co⟩ := f
  obtain ⟨h1, h2, h3, h4⟩ := hB
  simp only [] at h1 h2 h3 h4
  rw [List.drop_eq_nil_of_le (by omega), Zez]
  by_cases q : 1 < td
  ·rw [if_pos q]
   refine ⟨(400, m, p, hs, b, sz, td, co), ?_, rfl, fun h => absurd (show (400 : Int) = 0 from h) (by decide)⟩
   apply ev_succ
   simp only [spec_l3Read.l0, if_neg (show ¬ (i : Int) < (ls.length : Int) by omega), if_pos (show td > 1 from q)]
   exact Ev.now _
  ·rw [if_neg q]
   by_cases q1 : 200 < sz
   ·rw [if_pos q1]
    refine ⟨(Za0 (co ++ [413]), m, p, hs, b, sz, td, co ++ [413]), ?_, rfl, fun _ => ⟨rfl, rfl, rfl, rfl⟩⟩
    apply ev_succ
    simp only [spec_l3Read.l0, if_neg (show ¬ (i : Int) < (ls.length : Int) by omega), if_neg (show ¬ td > 1 from q), if_pos (show sz > 200 from q1), if_pos (show co.length < 17592186044416 by omega), Option.bind_some]
    exact Ev.bind (ZdD (co ++ [413]) (by rw [List.length_append, List.length_singleton]; omega)) (Ev.now _)
   ·rw [if_neg q1]
    refine ⟨(Za0 co, m, p, hs, b, sz, td, co), ?_, rfl, fun _ => ⟨rfl, rfl, rfl, rfl⟩⟩
    apply ev_succ
    simp only [spec_l3Read.l0, if_neg (show ¬ (i : Int) < (ls.length : Int) by omega), if_neg (show ¬ td > 1 from q), if_neg (show ¬ sz > 200 from q1)]
    exact Ev.bind (ZdD co (by omega)) (Ev.now _)
 | succ n ih =>
  intro i f hn1 hi hB
  have hil : i < ls.length := by omega
  have hd : ls.drop i = ls[i] :: ls.drop (i + 1) := List.drop_eq_getElem_cons hil
  have hrd : rdOf ByteArray.empty ls (i : Int) = ls[i] := by rw [Z3, List.getD_eq_getElem?_getD, List.getElem?_eq_getElem hil]; rfl
  have hsz := hx ls[i] (List.getElem_mem _)
  have hB' := Zfc ls[i] i f hB
  have hw : wrap64 ((i : Int) + 1) = ((i + 1 : Nat) : Int) := by rw [wrap_id (by omega) (by omega)]; rfl
  have he : Ev (fun k => spec_l3Head.f k f.1 f.2.1 f.2.2.1 f.2.2.2.1 f.2.2.2.2.1 f.2.2.2.2.2.1 f.2.2.2.2.2.2 ls[i]) (ZbJ (Zu ls[i] f)) := by
   obtain ⟨m, p, hs, b, sz, td, co⟩ := f
   obtain ⟨h1, h2, h3, h4⟩ := hB
   simp only [] at h1 h2 h3 h4
   exact Zey ls[i] m p hs b sz td co hsz (by omega) h2 (by omega) (by omega)
  rw [hd, Zs]
  by_cases q : (Zu ls[i] f).2 = 0
  ·rw [if_pos q]
   obtain ⟨r, hr, h2, h3⟩ := ih (i + 1) (Zu ls[i] f).1 (by omega) (by omega) hB'
   refine ⟨r, ?_, h2, h3⟩
   apply ev_succ
   simp only [spec_l3Read.l0, if_pos (show (i : Int) < (ls.length : Int) by omega), if_pos (show (0 : Int) ≤ (i : Int) by omega), hrd, hw]
   refine Ev.bind he ?_
   exact Ev.congr (fun k => if_pos q) hr
  ·rw [if_neg q]
   refine ⟨ZbJ (Zu ls[i] f), ?_, (if_neg q).symm, fun h => absurd h q⟩
   apply ev_succ
   simp only [spec_l3Read.l0, if_pos (show (i : Int) < (ls.length : Int) by omega), if_pos (show (0 : Int) ≤ (i : Int) by omega), hrd]
   refine Ev.bind he ?_
   exact Ev.congr (fun k => if_neg q) (Ev.now _)
def ZcC (ps : List BA) : Prop := ps.length = 3 ∧ bytesOf (ps.getD 2 ByteArray.empty) = Zag ∧ (Zv (ps.getD 0 ByteArray.empty) && Zj (ps.getD 1 ByteArray.empty)) = true
theorem Zeh (s m p : BA) (hs : List S113) (b : BA) (sz td : Int) (co : List Int) (hz : s.size ≤ 1048576) :
  ∃ r : Bool × BA × BA × List S113 × BA × Int × Int × List Int, Ev (fun k => spec_l3First.f k m p hs b sz td co s) r ∧ (r.1 = true ↔ ZcC (Zf 32 (bytesOf s))) ∧ (r.1 = true → r.2 = ((Zf 32 (bytesOf s)).getD 0 ByteArray.empty, (Zf 32 (bytesOf s)).getD 1 ByteArray.empty, hs, b, sz, td, co)) := by
 have hps := ZbN 32 (bytesOf s)
 rw [bytesOf_length] at hps
 have hsp := ZbY 32 s hz
 generalize Zf 32 (bytesOf s) = ps at hps hsp
 have g0 : rdOf ByteArray.empty ps 0 = ps.getD 0 ByteArray.empty := Z3 ps 0
 have g1 : rdOf ByteArray.empty ps 1 = ps.getD 1 ByteArray.empty := Z3 ps 1
 have g2 : rdOf ByteArray.empty ps 2 = ps.getD 2 ByteArray.empty := Z3 ps 2
 have hlit : ((ps.getD 2 ByteArray.empty).toList = ([72, 84, 84, 80, 47, 49, 46, 49] : List UInt8)) ↔ bytesOf (ps.getD 2 ByteArray.empty) = Zag := Zr _ _
 have jbad : Ev (fun k => spec_l3First.j0 k ps true m p hs b sz td co) (false, m, p, hs, b, sz, td, co) := by
  apply ev_succ; simp only [spec_l3First.j0, if_true]; exact Ev.now _
 unfold spec_l3First.f
 by_cases q0 : ps.length = 3
 ·by_cases q1 : bytesOf (ps.getD 2 ByteArray.empty) = Zag
  ·have hm := ZaG (ps.getD 0 ByteArray.empty) (Nat.le_trans (hps 0) hz)
   have ht := ZaH (ps.getD 1 ByteArray.empty) (Nat.le_trans (hps 1) hz)
   have hb1 : ((ps.getD 2 ByteArray.empty).toList != ([72, 84, 84, 80, 47, 49, 46, 49] : List UInt8)) = false := by rw [bne_eq_false_iff_eq]; exact hlit.2 q1
   by_cases q2 : Zv (ps.getD 0 ByteArray.empty) = true
   ·refine ⟨(Zj (ps.getD 1 ByteArray.empty), ps.getD 0 ByteArray.empty, ps.getD 1 ByteArray.empty, hs, b, sz, td, co), Ev.bind hsp ?_, ?_, fun _ => rfl⟩
    ·simp only [if_pos (show (ps.length : Int) = 3 by omega), if_pos (show (2 : Int) < (ps.length : Int) by omega), g2, hb1]
     apply ev_succ
     simp only [spec_l3First.j0, Bool.false_eq_true, if_false, if_pos (show (0 : Int) < (ps.length : Int) by omega), if_pos (show (1 : Int) < (ps.length : Int) by omega), g0, g1]
     refine Ev.bind hm ?_
     simp only [if_pos q2]
     exact Ev.bind ht (Ev.now _)
    ·unfold ZcC
     rw [q2, Bool.true_and]
     exact ⟨fun h => ⟨q0, q1, h⟩, fun h => h.2.2⟩
   ·refine ⟨(false, ps.getD 0 ByteArray.empty, ps.getD 1 ByteArray.empty, hs, b, sz, td, co), Ev.bind hsp ?_, ⟨fun h => Bool.noConfusion h, fun h => ?_⟩, fun h => Bool.noConfusion h⟩
    ·simp only [if_pos (show (ps.length : Int) = 3 by omega), if_pos (show (2 : Int) < (ps.length : Int) by omega), g2, hb1]
     apply ev_succ
     simp only [spec_l3First.j0, Bool.false_eq_true, if_false, if_pos (show (0 : Int) < (ps.length : Int) by omega), if_pos (show (1 : Int) < (ps.length : Int) by omega), g0, g1]
     refine Ev.bind hm ?_
     simp only [if_neg q2]
     exact Ev.now _
    ·have := h.2.2
     rw [Bool.and_eq_true] at this
     exact absurd this.1 q2
  ·have hb1 : ((ps.getD 2 ByteArray.empty).toList != ([72, 84, 84, 80, 47, 49, 46, 49] : List UInt8)) = true := by rw [bne_iff_ne]; exact fun h => q1 (hlit.1 h)
   refine ⟨(false, m, p, hs, b, sz, td, co), Ev.bind hsp ?_, ⟨fun h => Bool.noConfusion h, fun h => absurd h.2.1 q1⟩, fun h => Bool.noConfusion h⟩
   simp only [if_pos (show (ps.length : Int) = 3 by omega), if_pos (show (2 : Int) < (ps.length : Int) by omega), g2, hb1]
   exact jbad
 ·refine ⟨(false, m, p, hs, b, sz, td, co), Ev.bind hsp ?_, ⟨fun h => Bool.noConfusion h, fun h => absurd h.1 q0⟩, fun h => Bool.noConfusion h⟩
  simp only [if_neg (show ¬ (ps.length : Int) = 3 by omega)]
  exact jbad
theorem ZeB (l : List Int) (hl : l.length ≤ 1048575) (hr : ∀ x ∈ l, 0 ≤ x ∧ x < 256) :
  ∃ r : FrO, Ev (fun k => spec_l3Read.f k (⟨#[]⟩ : BA) (⟨#[]⟩ : BA) ([] : List S113) (⟨#[]⟩ : BA) 0 0 ([] : List Int) (strOfNums l)) r ∧ r.1 = (rhS l).2 ∧ (r.1 = 0 → r.2.1 = (rhS l).1.1 ∧ r.2.2.1 = (rhS l).1.2.1 ∧ r.2.2.2.1 = ZC (rhS l).1 ∧ (Zbe (rhS l).1 = true → r.2.2.2.2.2.1 = -1) ∧ (Zbe (rhS l).1 = false → r.2.2.2.2.2.1 = ZaI (rhS l).1)) := by
 have hb := bytesOf_strOfNums l hr
 have hln := Zbc l
 have hsz := ZaR hr
 have hlines := Zcr (strOfNums l) (by rw [strOfNums_size]; omega)
 rw [hb] at hlines
 unfold spec_l3Read.f rhS
 generalize Ze l = ls at hln hsz hlines
 have h00 : rdOf ByteArray.empty ls 0 = ls.getD 0 ByteArray.empty := Z3 ls 0
 have hg : (ls.getD 0 ByteArray.empty).size ≤ 1048576 := by
  rw [List.getD_eq_getElem?_getD, List.getElem?_eq_getElem (show 0 < ls.length by omega)]
  have := hsz ls[0] (List.getElem_mem _)
  show ls[0].size ≤ _
  omega
 obtain ⟨r1, hr1, ho1, hv1⟩ := Zeh (ls.getD 0 ByteArray.empty) (⟨#[]⟩ : BA) (⟨#[]⟩ : BA) ([] : List S113) (⟨#[]⟩ : BA) 0 0 ([] : List Int) hg
 generalize Zf 32 (bytesOf (ls.getD 0 ByteArray.empty)) = ps at ho1 hv1
 by_cases q : r1.1 = true
 ·have hf := ho1.1 q
  have hv := hv1 q
  have hx : ∀ x ∈ ls, x.size ≤ 1048576 := fun x hx => by have := hsz x hx; omega
  obtain ⟨r, hr0, hc, hd⟩ := ZeA ls hx (by omega) _ 1 (ps.getD 0 ByteArray.empty, ps.getD 1 ByteArray.empty, [], ⟨#[]⟩, 0, 0, []) rfl (by omega) ⟨Nat.zero_le _, Int.le_refl 0, by simp only []; omega, Nat.zero_le _⟩
  obtain ⟨k1, k2⟩ := ZeT (ls.drop 1) _ _ (Zew (ps.getD 0 ByteArray.empty) (ps.getD 1 ByteArray.empty))
  rw [if_pos (show ps.length = 3 ∧ bytesOf (ps.getD 2 ByteArray.empty) = Zag ∧ (Zv (ps.getD 0 ByteArray.empty) && Zj (ps.getD 1 ByteArray.empty)) = true from hf)]
  refine ⟨r, Ev.bind hlines ?_, hc.trans k1, fun h => ?_⟩
  ·simp only [if_pos (show (0 : Int) < (ls.length : Int) by omega), h00]
   refine Ev.bind hr1 ?_
   simp only [if_pos q]
   rw [hv]
   exact hr0
  ·obtain ⟨d1, d2, d3, d4⟩ := hd h
   obtain ⟨e1, e2, e3, e4, e5⟩ := k2 (hc.symm.trans h)
   exact ⟨d1.trans e1, d2.trans e2, d3.trans e3, fun h => d4.trans (e4 h), fun h => d4.trans (e5 h)⟩
 ·have hf : ¬ ZcC ps := fun h => q (ho1.2 h)
  rw [if_neg (show ¬ (ps.length = 3 ∧ bytesOf (ps.getD 2 ByteArray.empty) = Zag ∧ (Zv (ps.getD 0 ByteArray.empty) && Zj (ps.getD 1 ByteArray.empty)) = true) from hf)]
  refine ⟨(400, r1.2), Ev.bind hlines ?_, rfl, fun h => absurd (show (400 : Int) = 0 from h) (by decide)⟩
  simp only [if_pos (show (0 : Int) < (ls.length : Int) by omega), h00]
  refine Ev.bind hr1 ?_
  simp only [if_neg q]
  exact Ev.now _
theorem ZcD (l : List Int) (hl : l.length ≤ 1048575) (hr : ∀ x ∈ l, 0 ≤ x ∧ x < 256) : Ev (fun k => spec_GetReq.f k l) (ZV l) := by
 unfold spec_GetReq.f ZV
 refine Ev.bind (Zcd l (by omega) hr) ?_
 have hb := Za9 (l.take 400) 0
 have h4 := Zdr (l.take 400) 0
 rw [List.length_take] at hb h4
 change Zc l ≤ _ ∧ _ at hb
 change 0 ≤ Zc l → _ at h4
 by_cases q0 : Zc l < 0
 ·rw [if_pos q0]; simp only [if_pos q0]
  by_cases q1 : 400 < l.length
  ·rw [if_pos q1]; simp only [if_neg (show ¬ (l.length : Int) ≤ 400 by omega)]; exact Ev.now _
  ·rw [if_neg q1]; simp only [if_pos (show (l.length : Int) ≤ 400 by omega)]; exact Ev.now _
 rw [if_neg q0]; simp only [if_neg q0]
 have h44 : (4 : Int) ≤ Zc l := by have := (h4 (by omega)).1; change (0 : Int) + 4 ≤ Zc l at this; omega
 obtain ⟨e, he⟩ : ∃ e : Nat, Zc l = (e : Int) := ⟨(Zc l).toNat, by omega⟩
 rw [he] at hb h44
 simp only [he, Int.toNat_natCast]
 clear h4 q0
 have hw : wrap64 ((e : Int) - 4) = ((e - 4 : Nat) : Int) := by rw [wrap_id (by omega) (by omega)]; omega
 simp only [hw, if_pos (show (0 : Int) ≤ ((e - 4 : Nat) : Int) by omega), if_pos (show ((e - 4 : Nat) : Int) ≤ (l.length : Int) by omega), Int.toNat_natCast]
 have hrt : ∀ x ∈ l.take (e - 4), 0 ≤ x ∧ x < 256 := fun x hx => hr x (List.mem_of_mem_take hx)
 have hlt : (l.take (e - 4)).length ≤ 1048575 := by rw [List.length_take]; omega
 obtain ⟨hP, hP2, _⟩ := Zdc (l.take (e - 4)) hlt hrt
 obtain ⟨r, hrd, hc, hv⟩ := ZeB (l.take (e - 4)) hlt hrt
 generalize rhS (l.take (e - 4)) = R at hP hP2 hc hv
 obtain ⟨⟨m, p, hs, b, co, ch, sz, td, bad⟩, code⟩ := R
 simp only [ZC, Zbe, ZaI] at hP2 hv ⊢
 have hsz : 0 ≤ sz := hP.2.2.2
 refine Ev.bind hrd ?_
 unfold ZaS
 by_cases c0 : r.1 = 0
 ·obtain ⟨e1, e2, e3, e4, e5⟩ := hv c0
  rw [if_neg (show ¬ code ≠ 0 from fun h => h (hc.symm.trans c0))]
  simp only [if_pos c0, e1, e2, e3]
  cases ch with
  | true =>
   rw [if_pos (show true = true from rfl)]
   have e6 := e4 rfl
   obtain ⟨X, hX1, hX2⟩ := Zdn l (by omega) hr (e : Int)
   have hg := ZaV l (by omega) hr e (by omega) (l.length + 1) (by rw [List.length_drop]; omega)
   have hX := Zfn hX1 hg
   simp only [e6, if_pos (show (-1 : Int) < 0 by omega)]
   refine Ev.bind hX2 ?_
   rw [hX]
   by_cases c2 : (chR (l.length + 1) (l.drop e) []).2.2 = 0
   ·rw [if_pos c2]
    unfold chV
    simp only [if_pos c2, if_true]
    exact Ev.now _
   ·rw [if_neg c2]
    unfold chV
    simp only [if_neg c2]
    exact Ev.now _
  | false =>
   rw [if_neg (show ¬ false = true by decide)]
   have e6 := e5 rfl
   obtain ⟨h200, _⟩ := hP2 (hc.symm.trans c0)
   have hw2 : wrap64 ((l.length : Int) - (e : Int)) = (l.length : Int) - (e : Int) := wrap_id (by omega) (by omega)
   have hw3 : wrap64 ((e : Int) + sz) = ((e + sz.toNat : Nat) : Int) := by rw [wrap_id (by omega) (by omega)]; omega
   simp only [e6, if_neg (show ¬ sz < 0 by omega), hw2, hw3]
   by_cases c2 : l.length < e + sz.toNat
   ·rw [if_pos c2]
    simp only [if_pos (show sz > (l.length : Int) - (e : Int) by omega)]
    exact Ev.now _
   ·rw [if_neg c2]
    simp only [if_neg (show ¬ sz > (l.length : Int) - (e : Int) by omega), if_pos (show (0 : Int) ≤ (e : Int) by omega), if_pos (show (e : Int) ≤ ((e + sz.toNat : Nat) : Int) by omega), if_pos (show ((e + sz.toNat : Nat) : Int) ≤ (l.length : Int) by omega), Int.toNat_natCast]
    rw [List.drop_take, show e + sz.toNat - e = sz.toNat by omega]
    exact Ev.now _
 ·rw [if_pos (show code ≠ 0 from fun h => c0 (hc.trans h))]
  simp only [if_neg c0]
  rw [← show r.1 = code from hc]
  exact Ev.now _
theorem ZeC : ∀ (n : Nat) (r x : List Int), (chR n r x).2.2 = 0 → (chR n r x).1.length ≤ 200
 | 0, r, x, h => by simp [chR] at h
 | n + 1, r, x, h => by
  rw [chR] at h ⊢
  by_cases c0 : (Zb r).2.2 = 0
  ·rw [if_neg (fun h => h c0)] at h ⊢
   generalize (Zb r).1.toNat = k at h ⊢
   generalize (Zb r).2.1 = t at h ⊢
   by_cases c1 : 200 < x.length + k
   ·rw [if_pos c1] at h; exact absurd h (by decide)
   rw [if_neg c1] at h ⊢
   by_cases c2 : t.length < k
   ·rw [if_pos c2] at h; exact absurd h (by decide)
   rw [if_neg c2] at h ⊢
   by_cases c4 : (Zn (t.drop k)).1 = 0
   ·rw [if_neg (fun h => h c4)] at h ⊢
    by_cases c6 : k = 0
    ·rw [if_pos c6]; simp only []; omega
    ·rw [if_neg c6] at h ⊢
     exact ZeC n _ _ h
   ·rw [if_pos c4] at h; exact absurd h c4
  ·rw [if_pos c0] at h; exact absurd h c0
theorem ZeV (s : BA) (st : Zm) (h : ∀ x ∈ ZC st, Zq x = true) : (Zw s st).1 = st.1 ∧ (Zw s st).2.1 = st.2.1 ∧ ∀ x ∈ ZC (Zw s st), Zq x = true := by
 obtain ⟨m, p, hs, b, co, ch, sz, td, bad⟩ := st
 unfold Zw
 simp only []
 by_cases q : drC 58 (bytesOf s) ≠ [] ∧ Zz (Za s) = true ∧ ZM (Zh s) = true
 ·rw [if_pos q]
  by_cases q1 : bytesOf (Za s) = CLb ∨ bytesOf (Za s) = TEb
  ·rw [if_pos q1]
   unfold Zaf
   simp only []
   split
   ·exact ⟨rfl, rfl, h⟩
   ·split
    ·exact ⟨rfl, rfl, h⟩
    ·exact ⟨rfl, rfl, h⟩
  ·rw [if_neg q1]
   refine ⟨rfl, rfl, fun x hx => ?_⟩
   rcases List.mem_append.1 (show x ∈ hs ++ [⟨Za s, Zh s⟩] from hx) with h2 | h2
   ·exact h x h2
   ·rw [List.mem_singleton.1 h2]
    have n1 : ¬ (Za s).toList = ([99, 111, 110, 116, 101, 110, 116, 45, 108, 101, 110, 103, 116, 104] : List UInt8) := fun h => q1 (.inl ((Zr _ _).1 h))
    have n2 : ¬ (Za s).toList = ([116, 114, 97, 110, 115, 102, 101, 114, 45, 101, 110, 99, 111, 100, 105, 110, 103] : List UInt8) := fun h => q1 (.inr ((Zr _ _).1 h))
    show (Zz (Za s) && (ZM (Zh s) && ZR (Za s))) = true
    unfold ZR
    rw [q.2.1, q.2.2]
    simp only [n1, n2, not_false_iff, decide_true, Bool.and_self]
 ·rw [if_neg q]; exact ⟨rfl, rfl, h⟩
theorem Zd0 : ∀ (ls : List BA) (st : Zm), (∀ x ∈ ZC st, Zq x = true) → (Zx ls st).1 = st.1 ∧ (Zx ls st).2.1 = st.2.1 ∧ ∀ x ∈ ZC (Zx ls st), Zq x = true
 | [], _, h => ⟨rfl, rfl, h⟩
 | s :: r, st, h => by
  obtain ⟨h1, h2, h3⟩ := ZeV s st h
  obtain ⟨h4, h5, h6⟩ := Zd0 r _ h3
  exact ⟨h4.trans h1, h5.trans h2, h6⟩
theorem Zfo (l : List Int) (h : (rhS l).2 = 0) : Zv (rhS l).1.1 = true ∧ Zj (rhS l).1.2.1 = true ∧ ∀ x ∈ ZC (rhS l).1, Zq x = true := by
 unfold rhS at h ⊢
 split
 ·rename_i q
  obtain ⟨q1, q2, q3⟩ := q
  rw [Bool.and_eq_true] at q3
  obtain ⟨h1, h2, h3⟩ := Zd0 ((Ze l).drop 1) ((Zf 32 (bytesOf ((Ze l).getD 0 ByteArray.empty))).getD 0 ByteArray.empty, (Zf 32 (bytesOf ((Ze l).getD 0 ByteArray.empty))).getD 1 ByteArray.empty, [], ⟨#[]⟩, ⟨#[]⟩, false, 0, false, false) (fun x hx => absurd hx (by simp [ZC]))
  simp only []
  rw [h1, h2]
  exact ⟨q3.1, q3.2, h3⟩
 ·rename_i q
  rw [if_neg q] at h
  exact absurd h (by decide)
theorem Zfd (l : List Int) (hl : l.length ≤ 1048575) (hr : ∀ x ∈ l, 0 ≤ x ∧ x < 256) (h : Zdd (ZV l) = 0) : ZN (ZV l).1 (ZV l).2.1 (ZV l).2.2.1 (ZV l).2.2.2.1 = true := by
 unfold ZV at h ⊢
 by_cases q0 : Zc l < 0
 ·rw [if_pos q0] at h
  split at h <;> exact absurd h (by simp only [ZaO]; decide)
 rw [if_neg q0] at h ⊢
 have hrt : ∀ x ∈ l.take ((Zc l).toNat - 4), 0 ≤ x ∧ x < 256 := fun x hx => hr x (List.mem_of_mem_take hx)
 have hlt : (l.take ((Zc l).toNat - 4)).length ≤ 1048575 := by rw [List.length_take]; omega
 obtain ⟨_, h2, _⟩ := Zdc _ hlt hrt
 have h3 := Zfo (l.take ((Zc l).toNat - 4))
 generalize rhS (l.take ((Zc l).toNat - 4)) = r at h h2 h3 ⊢
 obtain ⟨⟨m, p, hs, b, co, ch, sz, td, bad⟩, code⟩ := r
 simp only [ZC, ZaI, Zbe] at h h2 h3 ⊢
 have key : ∀ y : BA, y.size ≤ 200 → code = 0 → ZN m p hs y = true := by
  intro y hy hc
  obtain ⟨k1, k2, k3⟩ := h3 hc
  have k4 := (h2 hc).2
  unfold ZN ZaY Zd
  rw [k1, k2, List.all_eq_true.2 k3, decide_eq_true (show (hs.length : Int) ≤ 8 by omega), decide_eq_true (show (y.size : Int) ≤ 200 by omega)]
  rfl
 unfold ZaS at h ⊢
 by_cases c0 : code = 0
 ·rw [if_neg (fun h => h c0)] at h ⊢
  by_cases c1 : ch = true
  ·rw [if_pos c1] at h ⊢
   by_cases c2 : (chR (l.length + 1) (l.drop (Zc l).toNat) []).2.2 = 0
   ·rw [if_pos c2]
    refine key _ ?_ c0
    rw [strOfNums_size]
    exact ZeC _ _ _ c2
   ·rw [if_neg c2] at h; exact absurd (by rw [ZaO] at h; exact h) c2
  ·rw [if_neg c1] at h ⊢
   by_cases c2 : l.length < (Zc l).toNat + sz.toNat
   ·rw [if_pos c2] at h; exact absurd h (by simp only [ZaO]; decide)
   ·rw [if_neg c2]
    refine key _ ?_ c0
    have := (h2 c0).1
    rw [strOfNums_size, List.length_take]
    omega
 ·rw [if_pos c0] at h; exact absurd (by rw [ZaO] at h; exact h) c0
theorem ZeD (l : List Int) (h : Zdd (ZV l) ≠ 0) : Zfm (ZV l) = 0 := by
 unfold ZV at h ⊢
 by_cases q0 : Zc l < 0
 ·rw [if_pos q0]; split <;> rfl
 rw [if_neg q0] at h ⊢
 unfold ZaS at h ⊢
 split
 ·rfl
 ·rename_i c0
  rw [if_neg c0] at h
  split
  ·rename_i c1
   rw [if_pos c1] at h
   split
   ·rename_i c2
    rw [if_pos c2] at h; exact absurd rfl h
   ·rfl
  ·rename_i c1
   rw [if_neg c1] at h
   split
   ·rfl
   ·rename_i c2
    rw [if_neg c2] at h; exact absurd rfl h
def Zao (h : S113) : List Int := bytesOf h.f0 ++ 58 :: 32 :: bytesOf h.f1
theorem ZcT : ∀ (l : List S113) (x : BA), bytesOf (htL x l) = bytesOf x ++ l.flatMap (fun h => Zao h ++ [13, 10])
 | [], x => by simp [htL]
 | h :: r, x => by
  rw [htL, ZcT r]
  unfold Zaz Zao
  simp only [bytesOf_append, List.flatMap_cons, List.append_assoc]
  rfl
theorem Zd1 : ∀ (l : List Int) (i : Nat), snB i l = true → ∀ x ∈ l, (97 ≤ x ∧ x ≤ 122) ∨ (48 ≤ x ∧ x ≤ 57) ∨ x = 45
 | [], _, _, x, hx => by simp at hx
 | c :: r, i, h, x, hx => by
  rw [snB] at h
  simp only [Bool.and_eq_true] at h
  rcases List.mem_cons.1 hx with e | e
  ·subst e
   have h1 := h.1
   unfold snC Zbo ZK at h1
   simp only [Bool.or_eq_true, Bool.and_eq_true, decide_eq_true_eq] at h1
   omega
  ·exact Zd1 r (i + 1) h.2 x e
theorem ZbB {h : S113} (q : Zq h = true) : (∀ x ∈ bytesOf h.f0, (97 ≤ x ∧ x ≤ 122) ∨ (48 ≤ x ∧ x ≤ 57) ∨ x = 45) ∧ (∀ x ∈ bytesOf h.f1, 32 ≤ x ∧ x ≤ 126) ∧ h.f0.size ≤ 20 ∧ h.f1.size ≤ 60 := by
 unfold Zq Zz ZM Z7 at q
 simp only [Bool.and_eq_true, decide_eq_true_eq] at q
 obtain ⟨⟨q1, q2⟩, ⟨q3, q4, _⟩, _⟩ := q
 refine ⟨Zd1 _ _ q1, fun x hx => ?_, by omega, by omega⟩
 have := (List.all_eq_true.1 q4) x hx
 unfold Z1 at this
 simp only [Bool.and_eq_true, decide_eq_true_eq] at this
 exact this
def Zi (m p : BA) (l : List S113) (more : BA) : BA := ((((((m ++ (⟨#[32]⟩ : BA)) ++ p) ++ (⟨#[32, 72, 84, 84, 80, 47, 49, 46, 49]⟩ : BA)) ++ (⟨#[13, 10]⟩ : BA)) ++ Zal l) ++ more) ++ (⟨#[13, 10]⟩ : BA)
noncomputable def putV (m p : BA) (l : List S113) (b more : BA) (body : List Int) : List Int := if ZN m p l b = true then (if ((Zi m p l more).size : Int) > 400 then [] else bytesOf (Zi m p l more) ++ body) else []
theorem Z8 : (⟨#[32]⟩ : BA).size = 1 := rfl
theorem Zav : (⟨#[32, 72, 84, 84, 80, 47, 49, 46, 49]⟩ : BA).size = 9 := rfl
theorem Zaw (m p : BA) (l : List S113) (b more body : BA) (hm : m.size ≤ 1048576) (hp : p.size ≤ 1048576) (hl : l.length ≤ 1048576) (hs : ∀ x ∈ l, x.f0.size ≤ 1048576 ∧ x.f1.size ≤ 1048576) (hmo : more.size ≤ 1048576) (hb : body.size ≤ 1000000000) : Ev (fun k => spec_l3Put.f k m p l b more body) (putV m p l b more (bytesOf body)) := by
 have hh := Zbk l hl hs
 unfold spec_l3Put.f putV
 refine ev_ite (fun _ => ?_) (fun q => absurd (by omega) q)
 refine ev_ite (fun _ => ?_) (fun q => absurd (by simp only [ByteArray.size_append, Z8]; omega) q)
 refine ev_ite (fun _ => ?_) (fun q => absurd (by simp only [ByteArray.size_append, Z8]; omega) q)
 refine ev_ite (fun _ => ?_) (fun q => absurd (by simp only [ByteArray.size_append, Z8, Zav]; omega) q)
 refine Ev.bind (Zbn l hl hs) ?_
 refine ev_ite (fun _ => ?_) (fun q => absurd (by simp only [ByteArray.size_append, Z8, Zav, Zau]; omega) q)
 refine ev_ite (fun _ => ?_) (fun q => absurd (by simp only [ByteArray.size_append, Z8, Zav, Zau]; omega) q)
 refine ev_ite (fun _ => ?_) (fun q => absurd (by simp only [ByteArray.size_append, Z8, Zav, Zau]; omega) q)
 refine Ev.bind (Zc3 m p l b hm hp (by omega) hs) (ev_iteB (fun q => ?_) (fun q => ?_))
 ·rw [if_pos q]
  refine ev_ite (fun q1 => ?_) (fun q1 => ?_)
  ·rw [if_pos (show ((Zi m p l more).size : Int) > 400 from q1)]; exact Ev.now _
  ·rw [if_neg (show ¬ ((Zi m p l more).size : Int) > 400 from q1)]
   refine ev_ite (fun _ => ?_) (fun q => absurd (by simp only [ByteArray.size_append, Z8, Zav, Zau]; omega) q)
   refine ev_ite (fun _ => ?_) (fun q => absurd (by simp only [ByteArray.size_append, Z8, Zav, Zau]; omega) q)
   rw [bytesOf_append]
   exact Ev.now _
 ·rw [if_neg (by rw [q]; simp)]; exact Ev.now _
theorem Za1 (m p : BA) (l : List S113) (b more : BA) (body : List Int) (hm : m.size ≤ 1048576) (hp : p.size ≤ 1048576) (hl : l.length ≤ 1048576) (hs : ∀ x ∈ l, x.f0.size ≤ 1048576 ∧ x.f1.size ≤ 1048576) (hmo : more.size ≤ 1048576) (hb : body.length ≤ 1099511627776) : Ev (fun k => impl_putReq.f k m p l b more body) (putV m p l b more body) := by
 have hh := Zbk l hl hs
 unfold impl_putReq.f putV
 refine ev_ite (fun _ => ?_) (fun q => absurd (by omega) q)
 refine ev_ite (fun _ => ?_) (fun q => absurd (by simp only [ByteArray.size_append, Z8]; omega) q)
 refine ev_ite (fun _ => ?_) (fun q => absurd (by simp only [ByteArray.size_append, Z8]; omega) q)
 refine ev_ite (fun _ => ?_) (fun q => absurd (by simp only [ByteArray.size_append, Z8, Zav]; omega) q)
 refine Ev.bind (ZbZ l hl hs) ?_
 refine ev_ite (fun _ => ?_) (fun q => absurd (by simp only [ByteArray.size_append, Z8, Zav, Zau]; omega) q)
 refine ev_ite (fun _ => ?_) (fun q => absurd (by simp only [ByteArray.size_append, Z8, Zav, Zau]; omega) q)
 refine ev_ite (fun _ => ?_) (fun q => absurd (by simp only [ByteArray.size_append, Z8, Zav, Zau]; omega) q)
 refine Ev.bind (Zat m p l b hm hp (by omega) hs) (ev_iteB (fun q => ?_) (fun q => ?_))
 ·rw [if_pos q]
  refine ev_ite (fun q1 => ?_) (fun q1 => ?_)
  ·rw [if_pos (show ((Zi m p l more).size : Int) > 400 from q1)]; exact Ev.now _
  ·rw [if_neg (show ¬ ((Zi m p l more).size : Int) > 400 from q1)]
   refine ev_ite (fun _ => ?_) (fun q => absurd (by simp only [ByteArray.size_append, Z8, Zav, Zau]; omega) q)
   simp only [Option.bind_some]
   refine ev_ite (fun _ => Ev.now _) (fun q => absurd (by rw [← size_len]; simp only [ByteArray.size_append, Z8, Zav, Zau]; omega) q)
 ·rw [if_neg (by rw [q]; simp)]; exact Ev.now _
theorem ZeW (m p : BA) (l : List S113) (b more : BA) (body : List Int) : (putV m p l b more body).length ≤ 400 + body.length := by
 unfold putV
 split
 ·split
  ·simp
  ·rename_i h
   rw [List.length_append, ← size_len]; omega
 ·simp
noncomputable def putReqV (m p : BA) (l : List S113) (b : BA) : List Int := putV m p l b (if bytesOf b = [] then (⟨#[]⟩ : BA) else Zac b) (bytesOf b)
theorem Za2 (m p : BA) (l : List S113) (b : BA) (hm : m.size ≤ 1048576) (hp : p.size ≤ 1048576) (hl : l.length ≤ 1048576) (hs : ∀ x ∈ l, x.f0.size ≤ 1048576 ∧ x.f1.size ≤ 1048576) (hb : b.size ≤ 1048576) : Ev (fun k => spec_PutReq.f k m p l b) (putReqV m p l b) := by
 unfold spec_PutReq.f putReqV
 refine ev_ite (fun q => ?_) (fun q => ?_)
 ·have q' : bytesOf b = [] := (Zr b []).1 q
  rw [if_pos q', q']
  exact Ev.bind (Zaw m p l b (⟨#[]⟩ : BA) (⟨#[]⟩ : BA) hm hp hl hs (by decide) (by decide)) (Ev.now _)
 ·have q' : ¬ bytesOf b = [] := fun h => q ((Zr b []).2 h)
  have hn := Zb0 b.size hb
  rw [if_neg q']
  have e := Zco (b.size : Int) (by omega)
  rw [Int.toNat_natCast] at e
  refine Ev.bind e ?_
  refine ev_ite (fun _ => ?_) (fun q => absurd (by omega) q)
  refine ev_ite (fun _ => ?_) (fun q => absurd (by simp only [ByteArray.size_append, Zeg]; omega) q)
  exact Ev.bind (Zaw m p l b (Zac b) b hm hp hl hs (by unfold Zac; simp only [ByteArray.size_append, Zeg, Zau]; omega) (by omega)) (Ev.now _)
theorem ZcE (m p : BA) (l : List S113) (b : BA) (hm : m.size ≤ 1048576) (hp : p.size ≤ 1048576) (hl : l.length ≤ 1048576) (hs : ∀ x ∈ l, x.f0.size ≤ 1048576 ∧ x.f1.size ≤ 1048576) (hb : b.size ≤ 1048576) : Ev (fun k => impl_PutReq.f k m p l b) (putReqV m p l b) := by
 have hbl : (bytesOf b).length ≤ 1099511627776 := by rw [← size_len]; omega
 unfold impl_PutReq.f putReqV
 refine ev_ite (fun q => ?_) (fun q => ?_)
 ·have q' : bytesOf b = [] := (Zr b []).1 q
  rw [if_pos q']
  refine ev_ite (fun _ => ?_) (fun q => absurd (by omega) q)
  exact Ev.bind (Za1 m p l b (⟨#[]⟩ : BA) (bytesOf b) hm hp hl hs (by decide) hbl) (Ev.now _)
 ·have q' : ¬ bytesOf b = [] := fun h => q ((Zr b []).2 h)
  have hn := Zb0 b.size hb
  rw [if_neg q']
  have e2 := Zby b hb
  simp only [e2, Option.bind_some]
  refine ev_ite (fun _ => ?_) (fun q => absurd (by omega) q)
  exact Ev.bind (Za1 m p l b (Zac b) (bytesOf b) hm hp hl hs (by unfold Zac; simp only [ByteArray.size_append, Zeg, Zau]; omega) hbl) (Ev.now _)
def ZF (d : Nat) : Int := if d < 10 then 48 + (d : Int) else 87 + (d : Int)
def Z0 (u : Nat) : List Int := if h : u < 16 then [ZF u] else Z0 (u / 16) ++ [ZF (u % 16)]
theorem Zas (u : Nat) (h : 15 < u) : Z0 u = Z0 (u / 16) ++ [ZF (u % 16)] := by rw [Z0, dif_neg (by omega)]
theorem Zab (u : Nat) (h : u ≤ 15) : Z0 u = [ZF u] := by rw [Z0, dif_pos (by omega)]
theorem Zap (d : Nat) (h : d < 16) : 48 ≤ ZF d ∧ ZF d ≤ 102 := by unfold ZF; split <;> omega
theorem Zcs (u : Nat) : ∀ x ∈ Z0 u, 0 ≤ x ∧ x < 256 := by
 induction u using Nat.strongRecOn with
 | _ u ih =>
  intro x h
  rcases Nat.lt_or_ge 15 u with h9 | h9
  ·rw [Zas u h9, List.mem_append] at h
   rcases h with h | h
   ·exact ih (u / 16) (by omega) x h
   ·simp only [List.mem_cons, List.not_mem_nil, or_false] at h
    have := Zap (u % 16) (Nat.mod_lt _ (by decide)); omega
  ·rw [Zab u h9] at h
   simp only [List.mem_cons, List.not_mem_nil, or_false] at h
   have := Zap u (by omega); omega
theorem Zfe (u : Nat) (hu : u ≤ 9223372036854775807) : wrap64 (Int.tdiv (u : Int) 16) = ((u / 16 : Nat) : Int) := by
 rw [Int.tdiv_eq_ediv_of_nonneg (by omega), wrap_id (by omega) (by omega)]
 omega
theorem Zd2 (u : Nat) (hu : u ≤ 9223372036854775807) : Int.tmod (u : Int) 16 = ((u % 16 : Nat) : Int) := by
 rw [Int.tmod_eq_emod_of_nonneg (by omega)]; omega
theorem Zb2 : ∀ (k u : Nat), u < 16 ^ (k + 1) → (Z0 u).length ≤ k + 1
 | 0, u, h => by rw [Zab u (by simpa using Nat.le_of_lt_succ h)]; simp
 | k + 1, u, h => by
  rcases Nat.lt_or_ge 15 u with h9 | h9
  ·rw [Zas u h9, List.length_append]
   have := Zb2 k (u / 16) (by rw [Nat.pow_succ] at h; omega)
   simp; omega
  ·rw [Zab u h9]; simp
theorem ZcU (d : Nat) (h : d < 16) : spec_l1HexDigit.f ((d : Nat) : Int) = some (ZF d) := by
 unfold spec_l1HexDigit.f ZF
 by_cases h9 : d < 10
 ·rw [if_pos (by omega), if_pos h9, wrap_id (by omega) (by omega)]; congr 1; omega
 ·rw [if_neg (by omega), if_neg h9, wrap_id (x := 97 + (d : Int)) (by omega) (by omega), wrap_id (by omega) (by omega)]; congr 1; omega
theorem ZbO : ∀ (n u : Nat) (x : BA), u < 16 ^ (n + 1) → u ≤ 9223372036854775807 → x.size ≤ 1000 - n → n ≤ 20 → bytesOf x = (Z0 u).drop ((Z0 u).length - 1) ++ (bytesOf x).drop 1 → Ev (fun k => spec_Hex.l0 k (u : Int) x) (strOfNums (Z0 u ++ (bytesOf x).drop 1))
 | 0, u, x, h, hu, hx, hn, hb => by
  have h9 : u ≤ 15 := by omega
  apply ev_succ
  simp only [spec_Hex.l0, if_neg (show ¬ (u : Int) > 15 by omega)]
  rw [Zab u h9] at hb ⊢
  simp only [List.length_cons, List.length_nil, List.drop_zero, Nat.zero_add, Nat.sub_self] at hb
  rw [← hb, strOfNums_bytesOf]
  exact Ev.now _
 | n + 1, u, x, h, hu, hx, hn, hb => by
  apply ev_succ
  rcases Nat.lt_or_ge 15 u with h9 | h9
  ·have hd := Zap (u / 16 % 16) (Nat.mod_lt _ (by decide))
   have hy : bytesOf (strOfNums [ZF (u / 16 % 16)]) = [ZF (u / 16 % 16)] := bytesOf_strOfNums _ (by intro z hz; simp at hz; omega)
   have hs1 : (strOfNums [ZF (u / 16 % 16)]).size = 1 := by rw [size_len, hy]; rfl
   simp only [spec_Hex.l0, if_pos (show (u : Int) > 15 by omega), Zfe u hu, Zd2 (u / 16) (by omega), ZcU _ (Nat.mod_lt _ (by decide : 0 < 16)), Option.bind_some, hs1, if_pos (show 1 + x.size ≤ 9223372036854775807 by omega)]
   have e : bytesOf (strOfNums [ZF (u / 16 % 16)] ++ x) = ZF (u / 16 % 16) :: bytesOf x := by rw [bytesOf_append, hy]; rfl
   have ih := ZbO n (u / 16) (strOfNums [ZF (u / 16 % 16)] ++ x) (by rw [Nat.pow_succ] at h; omega) (by omega) (by rw [ByteArray.size_append, hs1]; omega) (by omega) (by
    rw [e]
    simp only [List.drop_succ_cons, List.drop_zero]
    rcases Nat.lt_or_ge 15 (u / 16) with h10 | h10
    ·rw [Zas (u / 16) h10]
     simp
    ·rw [Zab (u / 16) h10, Nat.mod_eq_of_lt (by omega)]
     simp)
   rw [e] at ih
   simp only [List.drop_succ_cons, List.drop_zero] at ih
   rw [Zas u h9] at hb ⊢
   simp only [List.length_append, List.length_cons, List.length_nil, Nat.zero_add, Nat.add_sub_cancel, List.drop_left] at hb
   rw [List.append_assoc, ← hb]
   exact ih
  ·simp only [spec_Hex.l0, if_neg (show ¬ (u : Int) > 15 by omega)]
   rw [Zab u h9] at hb ⊢
   simp only [List.length_cons, List.length_nil, List.drop_zero, Nat.zero_add, Nat.sub_self] at hb
   rw [← hb, strOfNums_bytesOf]
   exact Ev.now _
theorem ZbP (u : Nat) (hu : u ≤ 9223372036854775807) : Ev (fun k => spec_Hex.j0 k (u : Int)) (strOfNums (Z0 u)) := by
 apply ev_succ
 simp only [spec_Hex.j0, Zd2 u hu, ZcU _ (Nat.mod_lt _ (by decide : 0 < 16)), Option.bind_some]
 have hd := Zap (u % 16) (Nat.mod_lt _ (by decide))
 have hy : bytesOf (strOfNums [ZF (u % 16)]) = [ZF (u % 16)] := bytesOf_strOfNums _ (by intro z hz; simp at hz; omega)
 have hs1 : (strOfNums [ZF (u % 16)]).size = 1 := by rw [size_len, hy]; rfl
 have := ZbO 18 u (strOfNums [ZF (u % 16)]) (by omega) hu (by omega) (by omega) (by
  rw [hy]
  rcases Nat.lt_or_ge 15 u with h9 | h9
  ·rw [Zas u h9]; simp
  ·rw [Zab u h9, Nat.mod_eq_of_lt (by omega)]; simp)
 rw [hy] at this
 simpa using this
theorem ZdQ (n : Int) (hn : n ≤ 9223372036854775807) : Ev (fun k => spec_Hex.f k n) (strOfNums (Z0 n.toNat)) := by
 unfold spec_Hex.f
 refine ev_ite (fun h => ?_) (fun h => ?_)
 ·rw [show n.toNat = 0 from by omega]
  exact ZbP 0 (by omega)
 ·have := ZbP n.toNat (by omega)
  rwa [Int.toNat_of_nonneg (by omega)] at this
def Zah (b : List Int) : List Int := if b = [] then [] else Z0 b.length ++ [13, 10] ++ b ++ [13, 10]
def ZO : List Int → List Int → List Int
 | b, [] => Zah b ++ [48, 13, 10, 13, 10]
 | b, n :: r => if n < 1 then ZO b r else Zah (b.take n.toNat) ++ ZO (b.drop n.toNat) r
theorem ZeX {l : List Int} {p : Nat} {a : Int} {t : List Int} (h : l.drop p = a :: t) : rd l (p : Int) = a ∧ p < l.length ∧ l.drop (p + 1) = t := by
 have hp : p < l.length := by
  rcases Nat.lt_or_ge p l.length with h' | h'
  ·exact h'
  ·rw [List.drop_eq_nil_of_le h'] at h; cases h
 rw [List.drop_eq_getElem_cons hp] at h
 obtain ⟨h1, h2⟩ := List.cons.inj h
 refine ⟨?_, hp, h2⟩
 rw [rd, Int.toNat_natCast, List.getD_eq_getElem?_getD, List.getElem?_eq_getElem hp, Option.getD_some, h1]
theorem Zct : bytesOf (⟨#[13, 10]⟩ : BA) = [13, 10] := rfl
theorem Zei : bytesOf (⟨#[48]⟩ : BA) = [48] := rfl
theorem ZaA (b : List Int) (hb : b.length ≤ 1048576) : (Zah b).length ≤ b.length + 20 := by
 unfold Zah
 split
 ·simp
 ·have := Zb2 5 b.length (by omega)
  simp only [List.length_append, List.length_cons, List.length_nil]
  omega
theorem ZcV (s : BA) : s.toList = ([] : List UInt8) ↔ bytesOf s = [] := Zr s []
theorem ZaJ (s : BA) (j : Nat) : bytesOf (s.extract 0 j) = (bytesOf s).take j := by rw [bytesOf_extract, List.drop_zero]
theorem Zbm (s : BA) (j : Nat) : bytesOf (s.extract j s.size) = (bytesOf s).drop j := by
 rw [bytesOf_extract, List.take_of_length_le (by rw [bytesOf_length]; exact Nat.le_refl _)]
theorem ZbC (u : Nat) : bytesOf (strOfNums (Z0 u)) = Z0 u := bytesOf_strOfNums _ (Zcs u)
theorem ZdR (u : Nat) : (strOfNums (Z0 u)).size = (Z0 u).length := by rw [size_len, ZbC]
theorem ZaP (b : BA) (hb : b.size ≤ 1048576) : ∃ t, Ev (fun k => spec_l4Piece.f k b) t ∧ bytesOf t = Zah (bytesOf b) := by
 unfold spec_l4Piece.f
 by_cases q : b.toList = ([] : List UInt8)
 ·refine ⟨⟨#[]⟩, ?_, ?_⟩
  ·simp only [if_pos q]; exact Ev.now _
  ·rw [(ZcV b).1 q]; rfl
 ·have hl := bytesOf_length b
  have h6 := Zb2 5 b.size (by omega)
  have hs := ZdR b.size
  have c2 : (⟨#[13, 10]⟩ : BA).size = 2 := rfl
  refine ⟨((strOfNums (Z0 b.size) ++ (⟨#[13, 10]⟩ : BA)) ++ b) ++ (⟨#[13, 10]⟩ : BA), ?_, ?_⟩
  ·simp only [if_neg q]
   have h := ZdQ (b.size : Int) (by omega)
   rw [Int.toNat_natCast] at h
   refine Ev.bind h ?_
   simp only [ByteArray.size_append, c2]
   rw [if_pos (by omega), if_pos (by omega), if_pos (by omega)]
   exact Ev.now _
  ·rw [bytesOf_append, bytesOf_append, bytesOf_append, ZbC, Zct]
   unfold Zah
   rw [if_neg (fun e => q ((ZcV b).2 e)), hl]
theorem Zan (x1 : List Int) (h1 : x1.length ≤ 1048576) : ∀ (n i : Nat) (b s : BA), x1.length - i = n → i ≤ x1.length → s.size + b.size ≤ 20 * i + 1048576 → b.size ≤ 1048576 →
  ∃ t, Ev (fun k => spec_l4Text.l0 k b x1 s (i : Int)) t ∧ bytesOf t = bytesOf s ++ ZO (bytesOf b) (x1.drop i) ∧ t.size ≤ 100000000
 | 0, i, b, s, hn, hi, hs, hb => by
  obtain ⟨p, hp, hp1⟩ := ZaP b hb
  have hl := bytesOf_length b
  have hp2 := ZaA (bytesOf b) (by omega)
  have hp3 : p.size ≤ b.size + 20 := by rw [size_len, hp1]; omega
  have c1 : (⟨#[48]⟩ : BA).size = 1 := rfl
  have c2 : (⟨#[13, 10]⟩ : BA).size = 2 := rfl
  refine ⟨(((s ++ p) ++ (⟨#[48]⟩ : BA)) ++ (⟨#[13, 10]⟩ : BA)) ++ (⟨#[13, 10]⟩ : BA), ?_, ?_, ?_⟩
  ·apply ev_succ
   simp only [spec_l4Text.l0, if_neg (show ¬ (i : Int) < x1.length by omega)]
   refine Ev.bind hp ?_
   simp only [ByteArray.size_append, c1, c2]
   rw [if_pos (by omega), if_pos (by omega), if_pos (by omega), if_pos (by omega)]
   exact Ev.now _
  ·rw [List.drop_eq_nil_of_le (by omega)]
   simp only [bytesOf_append, hp1, Zct, Zei, ZO, List.append_assoc, List.cons_append, List.nil_append]
  ·simp only [ByteArray.size_append, c1, c2]; omega
 | n + 1, i, b, s, hn, hi, hs, hb => by
  have hil : i < x1.length := by omega
  obtain ⟨hr, _, _⟩ := ZeX (List.drop_eq_getElem_cons hil)
  have hw : wrap64 ((i : Int) + 1) = ((i + 1 : Nat) : Int) := by rw [wrap_id (by omega) (by omega)]; omega
  have hl := bytesOf_length b
  rw [List.drop_eq_getElem_cons hil]
  generalize x1[i] = m at hr
  by_cases q : m < 1
  ·obtain ⟨t, h2, h3⟩ := Zan x1 h1 n (i + 1) b s (by omega) (by omega) (by omega) hb
   refine ⟨t, ?_, by simpa only [ZO, if_pos q] using h3⟩
   apply ev_succ
   simp only [spec_l4Text.l0, if_pos (show (i : Int) < x1.length by omega), if_pos (show (0 : Int) ≤ (i : Int) by omega), hr, if_pos q, hw]
   exact h2
  ·simp only [ZO, if_neg q]
   have key : ∀ j : Nat, (bytesOf b).take j = (bytesOf b).take m.toNat → (bytesOf b).drop j = (bytesOf b).drop m.toNat → ∃ t, Ev (fun k => (spec_l4Piece.f k (b.extract 0 j)).bind fun t112 => (if s.size + t112.size ≤ 9223372036854775807 then (spec_l4Text.l0 k (b.extract j b.size) x1 (s ++ t112) (wrap64 ((i : Int) + 1))) else (none))) t ∧ bytesOf t = bytesOf s ++ (Zah ((bytesOf b).take m.toNat) ++ ZO ((bytesOf b).drop m.toNat) (x1.drop (i + 1))) ∧ t.size ≤ 100000000 := by
    intro j e1 e2
    have ht : (b.extract 0 j).size ≤ b.size := by rw [size_len, ZaJ, List.length_take]; omega
    have hd : (b.extract j b.size).size + (b.extract 0 j).size = b.size := by
     have e3 := bytesOf_length (b.extract 0 j)
     have e4 := bytesOf_length (b.extract j b.size)
     rw [ZaJ, List.length_take] at e3
     rw [Zbm, List.length_drop] at e4
     omega
    obtain ⟨p, hp, hp1⟩ := ZaP (b.extract 0 j) (by omega)
    have hlt := bytesOf_length (b.extract 0 j)
    have hp2 := ZaA (bytesOf (b.extract 0 j)) (by omega)
    have hp3 : p.size ≤ (b.extract 0 j).size + 20 := by rw [size_len, hp1]; omega
    obtain ⟨t, h2, h3, h4⟩ := Zan x1 h1 n (i + 1) (b.extract j b.size) (s ++ p) (by omega) (by omega) (by rw [ByteArray.size_append]; omega) (by omega)
    refine ⟨t, Ev.bind hp ?_, ?_, h4⟩
    ·simp only [if_pos (show s.size + p.size ≤ 9223372036854775807 by omega), hw]; exact h2
    ·rw [h3, bytesOf_append, hp1, ZaJ, Zbm, e1, e2, List.append_assoc]
   by_cases q1 : m > (b.size : Int)
   ·obtain ⟨t, h2, h3⟩ := key b.size (by rw [List.take_of_length_le (by omega), List.take_of_length_le (by omega)]) (by rw [List.drop_eq_nil_of_le (by omega), List.drop_eq_nil_of_le (by omega)])
    refine ⟨t, ?_, h3⟩
    apply ev_succ
    simp only [spec_l4Text.l0, if_pos (show (i : Int) < x1.length by omega), if_pos (show (0 : Int) ≤ (i : Int) by omega), hr, if_neg q, if_pos q1, if_pos (show (0 : Int) ≤ (b.size : Int) by omega), Int.le_refl, if_true]
    exact h2
   ·obtain ⟨t, h2, h3⟩ := key m.toNat rfl rfl
    refine ⟨t, ?_, h3⟩
    apply ev_succ
    simp only [spec_l4Text.l0, if_pos (show (i : Int) < x1.length by omega), if_pos (show (0 : Int) ≤ (i : Int) by omega), hr, if_neg q, if_neg q1, if_pos (show (0 : Int) ≤ m by omega), if_pos (show m ≤ (b.size : Int) by omega)]
    exact h2
theorem ZcF (b : BA) (x1 : List Int) (hb : b.size ≤ 1048576) (h1 : x1.length ≤ 1048576) : ∃ t, Ev (fun k => spec_l4Text.f k b x1) t ∧ bytesOf t = ZO (bytesOf b) x1 ∧ t.size ≤ 100000000 := by
 have := Zan x1 h1 x1.length 0 b ⟨#[]⟩ rfl (by omega) (by have c0 : (⟨#[]⟩ : BA).size = 0 := rfl; omega) hb
 exact this
def TEl : BA := ⟨#[116, 114, 97, 110, 115, 102, 101, 114, 45, 101, 110, 99, 111, 100, 105, 110, 103, 58, 32, 99, 104, 117, 110, 107, 101, 100, 13, 10]⟩
theorem ZbD (m p : BA) (l : List S113) (b : BA) (s : List Int) (hm : m.size ≤ 1048576) (hp : p.size ≤ 1048576) (hl : l.length ≤ 1048576) (hz : ∀ x ∈ l, x.f0.size ≤ 1048576 ∧ x.f1.size ≤ 1048576) (hb : b.size ≤ 1048576) (hs : s.length ≤ 1048576) : Ev (fun k => spec_PutChunked.f k m p l b s) (putV m p l b TEl (ZO (bytesOf b) s)) := by
 obtain ⟨t, ht, ht1, ht2⟩ := ZcF b s hb hs
 unfold spec_PutChunked.f
 rw [← ht1]
 exact Ev.bind ht (Ev.bind (Zaw m p l b TEl t hm hp hl hz (by decide) (by omega)) (Ev.now _))
def Zai (m p : BA) : List Int := bytesOf m ++ 32 :: (bytesOf p ++ 32 :: Zag)
def ZP (m p : BA) (hs : List S113) (ex : List (List Int)) : List (List Int) := Zai m p :: (hs.map Zao ++ ex)
theorem Zcu : ∀ (ls : List (List Int)) (a : List Int), ZD (a :: ls) ++ [13, 10] = (a :: ls).flatMap (fun x => x ++ [13, 10])
 | [], a => by simp [ZD]
 | b :: r, a => by
  have ih := Zcu r b
  rw [ZD, List.flatMap_cons, ← ih]; simp
theorem Zc4 (m p : BA) (hs : List S113) (more : BA) (ex : List (List Int)) (hm : bytesOf more = ex.flatMap (fun x => x ++ [13, 10])) : bytesOf (Zi m p hs more) = ZD (ZP m p hs ex) ++ [13, 10, 13, 10] := by
 have h1 : ZD (ZP m p hs ex) ++ [13, 10, 13, 10] = (ZD (ZP m p hs ex) ++ [13, 10]) ++ [13, 10] := by simp
 rw [h1]
 unfold ZP
 rw [Zcu]
 unfold Zi Zal Zai
 simp only [bytesOf_append, ZcT, hm, List.flatMap_cons, List.flatMap_append, List.flatMap_map, List.append_assoc, List.cons_append]
 rfl
theorem Zaq {m p : BA} {hs : List S113} {b : BA} (q : ZN m p hs b = true) : (∀ x ∈ bytesOf m, 65 ≤ x ∧ x ≤ 90) ∧ (∀ x ∈ bytesOf p, 33 ≤ x ∧ x ≤ 126) ∧ Zv m = true ∧ Zj p = true ∧ hs.length ≤ 8 ∧ b.size ≤ 200 ∧ (∀ h ∈ hs, Zq h = true) ∧ m.size ≤ 9 ∧ p.size ≤ 80 := by
 unfold ZN at q
 simp only [Bool.and_eq_true, decide_eq_true_eq] at q
 obtain ⟨q1, q2, q3, q4⟩ := q
 have q1' := q1
 have q2' := q2
 unfold Zv Z7 at q1'
 unfold Zj Z7 at q2'
 unfold ZaY Zd at q3
 simp only [Bool.and_eq_true, decide_eq_true_eq] at q1' q2' q3
 refine ⟨fun x hx => ?_, fun x hx => ?_, q1, q2, by omega, by omega, List.all_eq_true.1 q3.1, by omega, by omega⟩
 ·have := (List.all_eq_true.1 q1'.1) x hx
  unfold ZH at this
  simp only [Bool.and_eq_true, decide_eq_true_eq] at this
  exact this
 ·have := (List.all_eq_true.1 q2'.2) x hx
  unfold Z5 at this
  simp only [Bool.and_eq_true, decide_eq_true_eq] at this
  exact this
theorem ZdE (m p : BA) : ∀ x ∈ Zai m p, 0 ≤ x ∧ x < 256 := by
 intro x hx
 unfold Zai at hx
 rcases List.mem_append.1 hx with h | h
 ·exact bytesOf_range _ x h
 ·rcases List.mem_cons.1 h with h | h
  ·omega
  ·rcases List.mem_append.1 h with h | h
   ·exact bytesOf_range _ x h
   ·rcases List.mem_cons.1 h with h | h
    ·omega
    ·exact (by decide : ∀ x ∈ Zag, 0 ≤ x ∧ x < 256) x h
theorem ZbQ {m p : BA} {hs : List S113} {b : BA} {ex : List (List Int)} (q : ZN m p hs b = true) (hx : ∀ a ∈ ex, a ≠ [] ∧ ∀ x ∈ a, x ≠ 13) : ∀ a ∈ ZP m p hs ex, a ≠ [] ∧ ∀ x ∈ a, x ≠ 13 := by
 obtain ⟨h1, h2, _, _, _, _, hh, _⟩ := Zaq q
 intro a ha
 unfold ZP at ha
 rcases List.mem_cons.1 ha with e | e
 ·subst e
  refine ⟨by simp [Zai], fun x hx => ?_⟩
  unfold Zai at hx
  rcases List.mem_append.1 hx with h | h
  ·have := h1 x h; omega
  ·rcases List.mem_cons.1 h with h | h
   ·omega
   ·rcases List.mem_append.1 h with h | h
    ·have := h2 x h; omega
    ·rcases List.mem_cons.1 h with h | h
     ·omega
     ·exact (by decide : ∀ x ∈ Zag, x ≠ 13) x h
 ·rcases List.mem_append.1 e with e | e
  ·obtain ⟨h, hm, rfl⟩ := List.mem_map.1 e
   have hf := ZbB (hh h hm)
   refine ⟨by simp [Zao], fun x hx => ?_⟩
   unfold Zao at hx
   rcases List.mem_append.1 hx with h | h
   ·have := hf.1 x h; omega
   ·rcases List.mem_cons.1 h with h | h
    ·omega
    ·rcases List.mem_cons.1 h with h | h
     ·omega
     ·have := hf.2.1 x h; omega
  ·exact hx a e
theorem ZcG (c : Int) : ∀ (a cur r : List Int), (∀ x ∈ a, x ≠ c) → ZQ c cur (a ++ c :: r) = (cur ++ a) :: ZQ c [] r
 | [], cur, r, _ => by simp [ZQ]
 | x :: a, cur, r, h => by
  rw [List.cons_append, ZQ, if_neg (h x (by simp)), ZcG c a _ r (fun y hy => h y (by simp [hy]))]
  simp
theorem ZcW (c : Int) : ∀ (a cur : List Int), (∀ x ∈ a, x ≠ c) → ZQ c cur a = [cur ++ a]
 | [], cur, _ => by simp [ZQ]
 | x :: a, cur, h => by
  rw [ZQ, if_neg (h x (by simp)), ZcW c a _ (fun y hy => h y (by simp [hy]))]
  simp
theorem ZdF {m p : BA} (h1 : ∀ x ∈ bytesOf m, 65 ≤ x ∧ x ≤ 90) (h2 : ∀ x ∈ bytesOf p, 33 ≤ x ∧ x ≤ 126) : Zf 32 (bytesOf (strOfNums (Zai m p))) = [m, p, strOfNums Zag] := by
 rw [bytesOf_strOfNums _ (ZdE m p)]
 unfold Zf Zai
 rw [ZcG 32 (bytesOf m) [] _ (fun x hx => by have := h1 x hx; omega), ZcG 32 (bytesOf p) [] _ (fun x hx => by have := h2 x hx; omega), ZcW 32 Zag [] (by decide)]
 simp only [List.nil_append, List.map_cons, List.map_nil, strOfNums_bytesOf]
theorem ZeE (c : Int) : ∀ (a r : List Int), (∀ x ∈ a, x ≠ c) → tkC c (a ++ c :: r) = a ∧ drC c (a ++ c :: r) = c :: r
 | [], r, _ => by simp [tkC, drC]
 | x :: a, r, h => by
  have hx := h x (by simp)
  obtain ⟨i1, i2⟩ := ZeE c a r (fun y hy => h y (by simp [hy]))
  unfold tkC drC at *
  refine ⟨?_, ?_⟩
  ·rw [List.cons_append, List.takeWhile_cons, if_pos (by simpa using hx), i1]
  ·rw [List.cons_append, List.dropWhile_cons, if_pos (by simpa using hx), i2]
theorem Zcv : ∀ (l : List Int), (∀ x ∈ l, ZH x = false) → ZY l = l
 | [], _ => rfl
 | x :: l, h => by
  have := Zcv l (fun y hy => h y (by simp [hy]))
  unfold ZY at *
  rw [List.map_cons, this]
  unfold ZX
  rw [if_neg (by rw [h x (by simp)]; simp)]
theorem ZdS (s : BA) (h : ∀ x ∈ bytesOf s, ZH x = false) : Zk s = s := by
 unfold Zk; rw [Zcv _ h, strOfNums_bytesOf]
theorem Zej (l : List Int) : Zt (Zl (32 :: l)) = Zt (Zl l) := by
 have e : Zl (32 :: l) = if Zl l = [] then [] else 32 :: Zl l := by
  unfold Zl
  rw [List.reverse_cons, List.dropWhile_append]
  cases hd : l.reverse.dropWhile Zp with
  | nil => simp [List.dropWhile, show Zp 32 = true from rfl]
  | cons a t => simp
 rw [e]
 split
 ·rename_i h; rw [h]
 ·unfold Zt
  rw [List.dropWhile_cons, if_pos (by rfl)]
theorem Zff (v : BA) : Z6 (strOfNums (32 :: bytesOf v)) = Z6 v := by
 unfold Z6
 rw [bytesOf_strOfNums (32 :: bytesOf v) (fun x hx => by rcases List.mem_cons.1 hx with h | h; omega; exact bytesOf_range _ x h), Zej]
theorem Zcw (n : BA) (v : BA) (l : List Int) (hl : l = bytesOf n ++ 58 :: 32 :: bytesOf v) (hn : ∀ x ∈ bytesOf n, x ≠ 58 ∧ ZH x = false) : drC 58 (bytesOf (strOfNums l)) ≠ [] ∧ Za (strOfNums l) = n ∧ Zh (strOfNums l) = Z6 v := by
 have hr : ∀ x ∈ l, 0 ≤ x ∧ x < 256 := by
  intro x hx
  rw [hl] at hx
  rcases List.mem_append.1 hx with h | h
  ·exact bytesOf_range _ x h
  ·rcases List.mem_cons.1 h with h | h
   ·omega
   ·rcases List.mem_cons.1 h with h | h
    ·omega
    ·exact bytesOf_range _ x h
 obtain ⟨t1, t2⟩ := ZeE 58 (bytesOf n) (32 :: bytesOf v) (fun x hx => (hn x hx).1)
 unfold Za Zh
 rw [bytesOf_strOfNums l hr, hl, t1, t2, strOfNums_bytesOf, ZdS n (fun x hx => (hn x hx).2), List.tail_cons, Zff]
 exact ⟨by simp, rfl, rfl⟩
theorem Zek {x : Int} (h : (97 ≤ x ∧ x ≤ 122) ∨ (48 ≤ x ∧ x ≤ 57) ∨ x = 45) : x ≠ 58 ∧ ZH x = false := by
 refine ⟨by omega, ?_⟩
 unfold ZH
 rw [Bool.and_eq_false_iff, decide_eq_false_iff_not, decide_eq_false_iff_not]; omega
theorem Zel {h : S113} (q : Zq h = true) (m p : BA) (hs : List S113) (b co : BA) (ch : Bool) (sz : Int) (td bad : Bool) : Zw (strOfNums (Zao h)) (m, p, hs, b, co, ch, sz, td, bad) = (m, p, hs ++ [h], b, co, ch, sz, td, bad) := by
 have hf := ZbB q
 obtain ⟨l1, l2, l3⟩ := Zcw h.f0 h.f1 (Zao h) rfl (fun x hx => Zek (hf.1 x hx))
 unfold Zq ZR at q
 simp only [Bool.and_eq_true, decide_eq_true_eq] at q
 obtain ⟨q1, q2, q3, q4⟩ := q
 have ht : Z6 h.f1 = h.f1 := by
  have := q2
  unfold ZM at this
  simp only [Bool.and_eq_true, beq_iff_eq] at this
  have h2 := this.2.2
  rw [Lib.toList_data, Lib.toList_data] at h2
  exact ByteArray.ext (Array.toList_inj.1 h2)
 unfold Zw
 simp only []
 rw [l2, l3, ht, if_pos ⟨l1, q1, q2⟩, if_neg]
 rintro (e | e)
 ·exact q3 ((Zr h.f0 _).2 e)
 ·exact q4 ((Zr h.f0 _).2 e)
theorem Zcx : ∀ (hs : List S113) (ls : List BA) (m p : BA) (acc : List S113) (b co : BA) (ch : Bool) (sz : Int) (td bad : Bool), (∀ h ∈ hs, Zq h = true) →
  Zx (hs.map (fun h => strOfNums (Zao h)) ++ ls) (m, p, acc, b, co, ch, sz, td, bad) = Zx ls (m, p, acc ++ hs, b, co, ch, sz, td, bad)
 | [], ls, m, p, acc, b, co, ch, sz, td, bad, _ => by simp
 | h :: r, ls, m, p, acc, b, co, ch, sz, td, bad, hh => by
  have ih := Zcx r ls m p (acc ++ [h]) b co ch sz td bad (fun y hy => hh y (by simp [hy]))
  rw [List.map_cons, List.cons_append]
  show Zx _ (Zw (strOfNums (Zao h)) (m, p, acc, b, co, ch, sz, td, bad)) = _
  rw [Zel (hh h (by simp)), ih]; simp
theorem Zfg {m p : BA} {hs : List S113} {b : BA} {ex : List (List Int)} (q : ZN m p hs b = true) (hx : ∀ a ∈ ex, a ≠ [] ∧ ∀ x ∈ a, x ≠ 13) (st : Zm) (hst : Zx (ex.map strOfNums) (m, p, hs, ⟨#[]⟩, ⟨#[]⟩, false, 0, false, false) = st) : rhS (ZD (ZP m p hs ex)) = (st, Z9 st) := by
 obtain ⟨h1, h2, h3, h4, _, _, hh, _⟩ := Zaq q
 have hL : Ze (ZD (ZP m p hs ex)) = (ZP m p hs ex).map strOfNums := by
  unfold Ze
  rw [ZcL _ (by unfold ZP; simp) (fun a ha => (ZbQ q hx a ha).2)]
 have hp := ZdF h1 h2
 have hg : ((ZP m p hs ex).map strOfNums).getD 0 ByteArray.empty = strOfNums (Zai m p) := rfl
 have hd : ((ZP m p hs ex).map strOfNums).drop 1 = hs.map (fun h => strOfNums (Zao h)) ++ ex.map strOfNums := by
  unfold ZP
  rw [List.map_cons, List.drop_one, List.tail_cons, List.map_append, List.map_map]
  rfl
 have hr := Zcx hs (ex.map strOfNums) m p [] (⟨#[]⟩ : BA) (⟨#[]⟩ : BA) false 0 false false hh
 rw [List.nil_append, hst] at hr
 unfold rhS
 rw [hL, hg, hd, hp]
 simp only [List.getD_cons_zero, List.getD_cons_succ]
 rw [hr, if_pos ⟨rfl, bytesOf_strOfNums Zag (by decide), by rw [h3, h4]; rfl⟩]
theorem ZdG {m p : BA} {hs : List S113} {b more : BA} {ex : List (List Int)} (q : ZN m p hs b = true) (hmo : bytesOf more = ex.flatMap (fun x => x ++ [13, 10])) (hx : ∀ a ∈ ex, a ≠ [] ∧ ∀ x ∈ a, x ≠ 13) (hz : (Zi m p hs more).size ≤ 400)
  (co : BA) (ch : Bool) (sz : Int) (td : Bool) (hst : Zx (ex.map strOfNums) (m, p, hs, ⟨#[]⟩, ⟨#[]⟩, false, 0, false, false) = (m, p, hs, ⟨#[]⟩, co, ch, sz, td, false)) (hco : ch = true → bytesOf (Zk co) = CHb) (hsz : sz ≤ 200) (y : List Int) :
  ZV (bytesOf (Zi m p hs more) ++ y) = ZaS (bytesOf (Zi m p hs more) ++ y) (bytesOf (Zi m p hs more)).length m p hs ch sz 0 := by
 have hb := Zc4 m p hs more ex hmo
 have hl : (bytesOf (Zi m p hs more)).length = (ZD (ZP m p hs ex)).length + 4 := by rw [hb]; simp
 have hl4 := bytesOf_length (Zi m p hs more)
 have hE : Zc (bytesOf (Zi m p hs more) ++ y) = ((bytesOf (Zi m p hs more)).length : Int) := by
  unfold Zc
  rw [List.take_append, List.take_of_length_le (by omega)]
  have h1 := ZcM (ZP m p hs ex) 0 (y.take (400 - (bytesOf (Zi m p hs more)).length)) (by unfold ZP; simp) (ZbQ q hx)
  rw [hl, Nat.zero_add] at *
  rw [hb, List.append_assoc]
  exact h1
 have hS := Zfg q hx _ hst
 have hC : Z9 (m, p, hs, (⟨#[]⟩ : BA), co, ch, sz, td, false) = 0 := by
  rw [Zbz, if_neg (by simp), if_neg (by have := (Zaq q).2.2.2.2.1; omega), if_neg (fun h => h.2 (hco h.1)), if_neg (by omega)]
 rw [hC] at hS
 have hT : (bytesOf (Zi m p hs more) ++ y).take ((bytesOf (Zi m p hs more)).length - 4) = ZD (ZP m p hs ex) := by
  rw [hl, Nat.add_sub_cancel, hb, List.append_assoc, List.take_left]
 unfold ZV
 rw [hE, if_neg (by omega), Int.toNat_natCast, hT, hS]
 rfl
theorem ZcH {m p : BA} {hs : List S113} {b more : BA} {body : List Int} (h : putV m p hs b more body ≠ []) : ZN m p hs b = true ∧ (Zi m p hs more).size ≤ 400 ∧ putV m p hs b more body = bytesOf (Zi m p hs more) ++ body := by
 unfold putV at h ⊢
 by_cases q : ZN m p hs b = true
 ·rw [if_pos q] at h ⊢
  by_cases q1 : ((Zi m p hs more).size : Int) > 400
  ·rw [if_pos q1] at h; exact absurd rfl h
  ·rw [if_neg q1] at h ⊢
   exact ⟨q, by omega, rfl⟩
 ·rw [if_neg q] at h; exact absurd rfl h
theorem ZeY (a : List Int) (st st' : Zm) (h : Zw (strOfNums a) st = st') : Zx ([a].map strOfNums) st = st' := by
 unfold Zx
 simp only [List.map_cons, List.map_nil, List.foldl_cons, List.foldl_nil]
 exact h
theorem ZeZ (u : Nat) : ∀ a ∈ [bytesOf CLp ++ Zg u], a ≠ [] ∧ ∀ x ∈ a, x ≠ 13 := by
 intro a ha
 rw [List.mem_singleton] at ha
 subst ha
 refine ⟨by simp [CLp, bytesOf], fun x hx => ?_⟩
 rcases List.mem_append.1 hx with h | h
 ·intro e; subst e; revert h; decide
 ·have := ZbT u x h; omega
theorem Zc5 (b : BA) : bytesOf (Zac b) = [bytesOf CLp ++ Zg b.size].flatMap (fun x => x ++ [13, 10]) := by
 unfold Zac
 simp only [bytesOf_append, bytesOf_strOfNums _ (ZW b.size), List.flatMap_cons, List.flatMap_nil, List.append_nil]
 rfl
theorem Ze0 {m p : BA} {hs : List S113} {b : BA} (h : putReqV m p hs b ≠ []) (y : List Int) : ZV (putReqV m p hs b ++ y) = (m, p, hs, b, ((putReqV m p hs b).length : Int), 0) := by
 unfold putReqV at h ⊢
 by_cases q0 : bytesOf b = []
 ·rw [if_pos q0, q0] at h ⊢
  obtain ⟨q, hz, e⟩ := ZcH h
  rw [e, List.append_nil]
  rw [ZdG q (ex := []) (by rfl) (by simp) hz (⟨#[]⟩ : BA) false 0 false rfl (by simp) (by omega) y]
  have hb : b = strOfNums [] := by rw [← q0, strOfNums_bytesOf]
  unfold ZaS
  rw [if_neg (by simp), if_neg (by simp), if_neg (by rw [List.length_append]; simp)]
  simp [hb]
 ·rw [if_neg q0] at h ⊢
  obtain ⟨q, hz, e⟩ := ZcH h
  have hb2 : b.size ≤ 200 := (Zaq q).2.2.2.2.2.1
  have hb3 : (b.size : Int) ≤ 200 := Int.ofNat_le.2 hb2
  have h7 := Zba 3 b.size (by omega)
  have hne := ZbI b.size
  have hdig := ZbT b.size
  have hCL : bytesOf CLp = CLb ++ [58, 32] := rfl
  obtain ⟨l1, l2, l3⟩ := Zcw (strOfNums CLb) (strOfNums (Zg b.size)) (bytesOf CLp ++ Zg b.size) (by rw [bytesOf_strOfNums _ (ZW _), bytesOf_strOfNums CLb (by decide), hCL]; simp) (by rw [bytesOf_strOfNums CLb (by decide)]; decide)
  have ht : Z6 (strOfNums (Zg b.size)) = strOfNums (Zg b.size) := by
   unfold Z6
   rw [bytesOf_strOfNums _ (ZW _)]
   have hnb : ∀ x ∈ Zg b.size, Zp x = false := by
    intro x hx; have := hdig x hx
    unfold Zp; rw [decide_eq_false (by omega), decide_eq_false (by omega)]; rfl
   have e1 : ∀ l : List Int, (∀ x ∈ l, Zp x = false) → l.dropWhile Zp = l := by
    intro l hl
    cases l with
    | nil => rfl
    | cons a t => rw [List.dropWhile_cons, if_neg (by rw [hl a (by simp)]; simp)]
   have e2 : Zl (Zg b.size) = Zg b.size := by
    unfold Zl; rw [e1 _ (fun x hx => hnb x (List.mem_reverse.1 hx)), List.reverse_reverse]
   rw [e2]; unfold Zt; rw [e1 _ hnb]
  have hbs : bytesOf (strOfNums (Zg b.size)) = Zg b.size := bytesOf_strOfNums _ (ZW _)
  have hsz : (strOfNums (Zg b.size)).size = (Zg b.size).length := strOfNums_size _
  have hv : ZM (strOfNums (Zg b.size)) = true := by
   unfold ZM
   rw [ht, hsz, hbs]
   simp only [Bool.and_eq_true, decide_eq_true_eq, beq_self_eq_true, and_true]
   refine ⟨by omega, ?_⟩
   unfold Z2
   rw [List.all_eq_true]
   intro x hx; have := hdig x hx
   unfold Z1
   rw [decide_eq_true (by omega), decide_eq_true (by omega)]; rfl
  have hp : ZJ (strOfNums (Zg b.size)) 9999999 = ((b.size : Int), true) := ZbU _ _ b.size hbs (by omega) (by omega)
  have hbc : bytesOf (strOfNums CLb) = CLb := bytesOf_strOfNums CLb (by decide)
  have hst : Zw (strOfNums (bytesOf CLp ++ Zg b.size)) (m, p, hs, ⟨#[]⟩, ⟨#[]⟩, false, 0, false, false) = (m, p, hs, ⟨#[]⟩, ⟨#[]⟩, false, (b.size : Int), true, false) := by
   unfold Zw
   simp only []
   rw [l2, l3, ht, if_pos ⟨l1, by decide, hv⟩, if_pos (.inl hbc)]
   unfold Zaf
   simp only [hp]
   rw [hbc, if_neg (by decide), if_neg (by decide)]
   rfl
  rw [e, List.append_assoc]
  rw [ZdG q (ex := [bytesOf CLp ++ Zg b.size]) (Zc5 b) (ZeZ b.size) hz (⟨#[]⟩ : BA) false (b.size : Int) true (ZeY _ _ _ hst) (by simp) hb3 (bytesOf b ++ y)]
  unfold ZaS
  rw [if_neg (by simp), if_neg (by simp), Int.toNat_natCast, if_neg (by simp only [List.length_append, bytesOf_length]; omega), List.drop_left, List.take_left' (bytesOf_length b), strOfNums_bytesOf, List.length_append, bytesOf_length b]
theorem Zd3 (x : Int) : 0 ≤ Go.bits .and .i64 x 255 ∧ Go.bits .and .i64 x 255 ≤ 255 := by
 have h2 : (BitVec.ofInt 64 x).toNat &&& 255 ≤ 255 := Nat.and_le_right
 have h : Go.bits .and .i64 x 255 = IntKind.i64.wrap (((BitVec.ofInt 64 x &&& BitVec.ofInt 64 255).toNat : Nat) : Int) := rfl
 have e : (BitVec.ofInt 64 255).toNat = 255 := by decide
 rw [h, BitVec.toNat_and, e, IntKind.wrap_i64]
 omega
def Dr {α : Type} (f : List Int → Int → Int → Option (α × Int × Int)) (P : α → Prop) : Prop :=
 ∀ (b : List Int) (i h : Int), b.length ≤ 1048576 → 0 ≤ i → i ≤ b.length → ∃ x i' h', f b i h = some (x, i', h') ∧ P x ∧ 0 ≤ i' ∧ i' ≤ b.length
theorem Ze1 (l : List Int) (hl : l.length ≤ 1048576) : ∃ h, Ev (fun k => spec_l1New.f k l) (l, (0 : Int), h) := by
 have key : ∀ n i (x : Int), l.length - i = n → ∃ h, Ev (fun k => spec_l1New.l0 k l x (i : Int)) (l, (0 : Int), h) := by
  intro n
  induction n with
  | zero =>
   intro i x hn
   refine ⟨x, ?_⟩
   apply ev_succ; simp only [spec_l1New.l0, if_neg (show ¬ (i : Int) < (l.length : Int) by omega)]; exact Ev.now _
  | succ n ih =>
   intro i x hn
   by_cases h4 : (i : Int) < 4000
   ·obtain ⟨h, hh⟩ := ih (i + 1) (Go.bits .and .i64 (wrap64 ((wrap64 ((wrap64 (x * 137)) + (wrap64 (rd l i)))) + 11)) 1073741823) (by omega)
    refine ⟨h, ?_⟩
    apply ev_succ
    simp only [spec_l1New.l0, if_pos (show (i : Int) < (l.length : Int) by omega), if_pos h4, if_pos (show (0 : Int) ≤ (i : Int) by omega), wrap_id (x := (i : Int) + 1) (by omega) (by omega)]
    exact hh
   ·refine ⟨x, ?_⟩
    apply ev_succ; simp only [spec_l1New.l0, if_pos (show (i : Int) < (l.length : Int) by omega), if_neg h4]; exact Ev.now _
 exact key _ 0 _ rfl
theorem ZbE : Dr spec_l1Byte.f (fun x => 0 ≤ x ∧ x ≤ 255) := by
 intro b i h hb h0 h1
 unfold spec_l1Byte.f
 by_cases q : i < (b.length : Int)
 ·rw [if_pos q, if_pos h0]
  exact ⟨_, _, _, rfl, Zd3 _, by rw [wrap_id (by omega) (by omega)]; omega, by rw [wrap_id (by omega) (by omega)]; omega⟩
 ·rw [if_neg q]
  exact ⟨_, _, _, rfl, Zd3 _, h0, h1⟩
theorem Zcy (x n : Int) (hx : 0 ≤ x) (hn : 0 < n) : 0 ≤ Int.tmod x n ∧ Int.tmod x n < n := by
 rw [Int.tmod_eq_emod_of_nonneg hx]
 exact ⟨Int.emod_nonneg _ (by omega), Int.emod_lt_of_pos _ hn⟩
theorem Zy (n : Int) : Dr (fun b i h => spec_l1Below.f b i h n) (fun x => 0 ≤ x ∧ (0 < n → x < n)) := by
 intro b i h hb h0 h1
 show ∃ x i' h', spec_l1Below.f b i h n = some (x, i', h') ∧ _
 unfold spec_l1Below.f
 by_cases q : n ≤ 0
 ·rw [if_pos q]
  exact ⟨_, _, _, rfl, ⟨by omega, by omega⟩, h0, h1⟩
 ·rw [if_neg q]
  obtain ⟨x, i1, e1, f1, p1, a1, b1⟩ := ZbE b i h hb h0 h1
  by_cases q1 : n ≤ 256
  ·rw [if_pos q1, f1]
   simp only [Option.bind_some, if_neg (show ¬ n = 0 by omega)]
   have := Zcy x n p1.1 (by omega)
   exact ⟨_, _, _, rfl, ⟨this.1, fun _ => this.2⟩, a1, b1⟩
  ·rw [if_neg q1, f1]
   obtain ⟨y, i2, e2, f2, p2, a2, b2⟩ := ZbE b i1 e1 hb a1 b1
   obtain ⟨z, i3, e3, f3, p3, a3, b3⟩ := ZbE b i2 e2 hb a2 b2
   simp only [Option.bind_some, f2, f3, if_neg (show ¬ n = 0 by omega)]
   rw [wrap_id (x := x * 65536) (by omega) (by omega), wrap_id (x := y * 256) (by omega) (by omega), wrap_id (x := x * 65536 + y * 256) (by omega) (by omega), wrap_id (x := x * 65536 + y * 256 + z) (by omega) (by omega)]
   have := Zcy (x * 65536 + y * 256 + z) n (by omega) (by omega)
   exact ⟨_, _, _, rfl, ⟨this.1, fun _ => this.2⟩, a3, b3⟩
theorem ZS (l : List BA) (hl : 0 < l.length) : Dr (fun b i h => spec_l1Str.f b i h l) (fun x => x ∈ l) := by
 intro b i h hb h0 h1
 obtain ⟨x, i1, e1, f1, p1, a1, b1⟩ := Zy (l.length : Int) b i h hb h0 h1
 have f1' : spec_l1Below.f b i h (l.length : Int) = some (x, i1, e1) := f1
 have hx := p1.2 (by omega)
 show ∃ x i' h', spec_l1Str.f b i h l = some (x, i', h') ∧ _
 unfold spec_l1Str.f
 rw [f1']
 simp only [Option.bind_some, if_pos p1.1, if_pos hx]
 refine ⟨_, _, _, rfl, ?_, a1, b1⟩
 have hn : x.toNat < l.length := by omega
 rw [rdOf, List.getD_eq_getElem?_getD, List.getElem?_eq_getElem hn]
 exact List.getElem_mem hn
theorem ZdH (l : List Int) (hl : 0 < l.length) : Dr (fun b i h => spec_l1Int.f b i h l) (fun x => x ∈ l) := by
 intro b i h hb h0 h1
 obtain ⟨x, i1, e1, f1, p1, a1, b1⟩ := Zy (l.length : Int) b i h hb h0 h1
 have f1' : spec_l1Below.f b i h (l.length : Int) = some (x, i1, e1) := f1
 have hx := p1.2 (by omega)
 show ∃ x i' h', spec_l1Int.f b i h l = some (x, i', h') ∧ _
 unfold spec_l1Int.f
 rw [f1']
 simp only [Option.bind_some, if_pos p1.1, if_pos hx]
 refine ⟨_, _, _, rfl, ?_, a1, b1⟩
 have hn : x.toNat < l.length := by omega
 rw [rd, List.getD_eq_getElem?_getD, List.getElem?_eq_getElem hn]
 exact List.getElem_mem hn
def HdP (l : List S113) : Prop := l.length ≤ 20 ∧ ∀ x ∈ l, x.f0.size ≤ 100 ∧ x.f1.size ≤ 100
theorem Zb3 {l : List S113} {x : S113} {n : Nat} (h : HdP l) (hn : l.length ≤ n) (hn9 : n < 20) (h0 : x.f0.size ≤ 100) (h1 : x.f1.size ≤ 100) : HdP (l ++ [x]) ∧ (l ++ [x]).length ≤ n + 1 := by
 refine ⟨⟨by rw [List.length_append]; simp; omega, fun y hy => ?_⟩, by rw [List.length_append]; simp; omega⟩
 rcases List.mem_append.1 hy with hy | hy
 ·exact h.2 y hy
 ·simp only [List.mem_cons, List.not_mem_nil, or_false] at hy
  subst hy; exact ⟨h0, h1⟩
theorem Za3 : ∀ (n : Nat) (x : List S113) (b : List Int) (i h : Int), n ≤ 5 → HdP x → x.length ≤ 9 - n → b.length ≤ 1048576 → 0 ≤ i → i ≤ b.length → ∃ l i' h', Ev (fun k => spec_l3DrawHeads.l0 k x (n : Int) b i h) (l, i', h') ∧ HdP l ∧ l.length ≤ 9 ∧ 0 ≤ i' ∧ i' ≤ b.length
 | 0, x, b, i, h, hn, hx, hl, hb, h0, h1 => by
  refine ⟨x, i, h, ?_, hx, by omega, h0, h1⟩
  apply ev_succ
  simp only [spec_l3DrawHeads.l0, if_neg (show ¬ ((0 : Nat) : Int) > 0 by omega)]
  exact Ev.now _
 | n + 1, x, b, i, h, hn, hx, hl, hb, h0, h1 => by
  obtain ⟨y, i1, e1, f1, p1, a1, b1⟩ := ZS [(⟨#[105, 102]⟩ : BA), (⟨#[100, 101, 112, 116, 104]⟩ : BA), (⟨#[120, 45, 97]⟩ : BA), (⟨#[104, 111, 115, 116]⟩ : BA), (⟨#[105, 102, 45, 109, 97, 116, 99, 104]⟩ : BA)] (by decide) b i h hb h0 h1
  have f1' : spec_l1Str.f b i h _ = some (y, i1, e1) := f1
  have hy : y.size ≤ 9 := (by decide : ∀ x ∈ _, x.size ≤ 9) y p1
  obtain ⟨z, i2, e2, f2, p2, a2, b2⟩ := ZS [(⟨#[]⟩ : BA), (⟨#[48]⟩ : BA), (⟨#[105, 110, 102, 105, 110, 105, 116, 121]⟩ : BA), (⟨#[97, 32, 98]⟩ : BA), (⟨#[34, 118, 49, 34]⟩ : BA), (⟨#[40, 60, 49, 62, 41]⟩ : BA)] (by decide) b i1 e1 hb a1 b1
  have f2' : spec_l1Str.f b i1 e1 _ = some (z, i2, e2) := f2
  have hz : z.size ≤ 9 := (by decide : ∀ x ∈ _, x.size ≤ 9) z p2
  obtain ⟨hx2, hl2⟩ := Zb3 (x := ⟨y, z⟩) hx hl (by omega) (by show y.size ≤ 100; omega) (by show z.size ≤ 100; omega)
  obtain ⟨l, i3, e3, f3, p3, q3, a3, b3⟩ := Za3 n (x ++ [⟨y, z⟩]) b i2 e2 (by omega) hx2 (by omega) hb a2 b2
  refine ⟨l, i3, e3, ?_, p3, q3, a3, b3⟩
  apply ev_succ
  have hw : wrap64 (((n + 1 : Nat) : Int) - 1) = (n : Int) := by rw [wrap_id (by omega) (by omega)]; omega
  simp only [spec_l3DrawHeads.l0, if_pos (show ((n + 1 : Nat) : Int) > 0 by omega), f1', f2', Option.bind_some, if_pos (show x.length < 4398046511104 by omega), hw]
  exact f3
theorem ZcI (b : List Int) (i h : Int) (hb : b.length ≤ 1048576) (h0 : 0 ≤ i) (h1 : i ≤ b.length) : ∃ l i' h', Ev (fun k => spec_l3DrawHeads.f k b i h) (l, i', h') ∧ HdP l ∧ l.length ≤ 9 ∧ 0 ≤ i' ∧ i' ≤ b.length := by
 obtain ⟨x, i1, e1, f1, p1, a1, b1⟩ := Zy 3 b i h hb h0 h1
 have f1' : spec_l1Below.f b i h 3 = some (x, i1, e1) := f1
 have hx := p1.2 (by omega)
 have hx0 := p1.1
 obtain ⟨n, rfl⟩ : ∃ n : Nat, x = (n : Int) := ⟨x.toNat, by omega⟩
 obtain ⟨l, i2, e2, f2, p2⟩ := Za3 n [] b i1 e1 (by omega) ⟨by simp, by simp⟩ (by simp) hb a1 b1
 refine ⟨l, i2, e2, ?_, p2⟩
 unfold spec_l3DrawHeads.f
 simp only [f1', Option.bind_some]
 exact f2
theorem ZbF (n : Int) : Dr (fun b i h => spec_l1Once.f b i h n) (fun _ => True) := by
 intro b i h hb h0 h1
 obtain ⟨x, i1, e1, f1, p1, a1, b1⟩ := Zy n b i h hb h0 h1
 have f1' : spec_l1Below.f b i h n = some (x, i1, e1) := f1
 show ∃ x i' h', spec_l1Once.f b i h n = some (x, i', h') ∧ _
 unfold spec_l1Once.f
 rw [f1']
 exact ⟨_, _, _, rfl, trivial, a1, b1⟩
def RqP (m p : BA) (l : List S113) (b : BA) : Prop := m.size ≤ 100 ∧ p.size ≤ 100 ∧ HdP l ∧ b.size ≤ 1000
theorem ZcX (b : List Int) (i h : Int) (hb : b.length ≤ 1048576) (h0 : 0 ≤ i) (h1 : i ≤ b.length) : ∃ m p l y i' h', Ev (fun k => spec_l3Draw.f k b i h) (m, p, l, y, i', h') ∧ RqP m p l y ∧ l.length ≤ 9 ∧ 0 ≤ i' ∧ i' ≤ b.length := by
 obtain ⟨m, i1, e1, f1, p1, a1, b1⟩ := ZS [(⟨#[71, 69, 84]⟩ : BA), (⟨#[80, 85, 84]⟩ : BA), (⟨#[77, 75, 67, 79, 76]⟩ : BA), (⟨#[68, 69, 76, 69, 84, 69]⟩ : BA), (⟨#[67, 79, 80, 89]⟩ : BA)] (by decide) b i h hb h0 h1
 have f1' : spec_l1Str.f b i h _ = some (m, i1, e1) := f1
 have hm : m.size ≤ 9 := (by decide : ∀ x ∈ _, x.size ≤ 9) m p1
 obtain ⟨p, i2, e2, f2, p2, a2, b2⟩ := ZS [(⟨#[47]⟩ : BA), (⟨#[47, 97]⟩ : BA), (⟨#[47, 97, 47, 98]⟩ : BA), (⟨#[47, 97, 37, 50, 48, 98]⟩ : BA), (⟨#[120]⟩ : BA)] (by decide) b i1 e1 hb a1 b1
 have f2' : spec_l1Str.f b i1 e1 _ = some (p, i2, e2) := f2
 have hp : p.size ≤ 9 := (by decide : ∀ x ∈ _, x.size ≤ 9) p p2
 obtain ⟨l, i3, e3, f3, p3, q3, a3, b3⟩ := ZcI b i2 e2 hb a2 b2
 obtain ⟨y, i4, e4, f4, p4, a4, b4⟩ := ZS [(⟨#[]⟩ : BA), (⟨#[]⟩ : BA), (⟨#[97]⟩ : BA), (⟨#[104, 101, 108, 108, 111]⟩ : BA), (⟨#[60, 97, 47, 62]⟩ : BA), (⟨#[13, 10, 13, 10]⟩ : BA), (⟨#[120, 0, 255]⟩ : BA)] (by decide) b i3 e3 hb a3 b3
 have f4' : spec_l1Str.f b i3 e3 _ = some (y, i4, e4) := f4
 have hy : y.size ≤ 9 := (by decide : ∀ x ∈ _, x.size ≤ 9) y p4
 have f4b : spec_l3Body.f b i3 e3 = some (y, i4, e4) := by unfold spec_l3Body.f; rw [f4']; rfl
 refine ⟨m, p, l, y, i4, e4, ?_, ⟨by omega, by omega, p3, by omega⟩, q3, a4, b4⟩
 unfold spec_l3Draw.f
 simp only [f1', f2', Option.bind_some]
 refine Ev.bind f3 ?_
 simp only [f4b, Option.bind_some]
 exact Ev.now _
def BtP (n : Nat) (l : List Int) : Prop := l.length ≤ n ∧ ∀ x ∈ l, 0 ≤ x ∧ x < 256
theorem ZbG (b : List Int) (h : ∀ x ∈ b, 0 ≤ x ∧ x < 256) : ∀ x ∈ Zah b, 0 ≤ x ∧ x < 256 := by
 intro x hx
 unfold Zah at hx
 split at hx
 ·exact absurd hx (by simp)
 ·simp only [List.mem_append] at hx
  rcases hx with ((hx | hx) | hx) | hx
  ·exact Zcs _ x hx
  ·simp at hx; omega
  ·exact h x hx
  ·simp at hx; omega
theorem Zb4 : ∀ (s b : List Int), b.length ≤ 1048576 → (∀ x ∈ b, 0 ≤ x ∧ x < 256) → (ZO b s).length ≤ b.length + 20 * s.length + 25 ∧ ∀ x ∈ ZO b s, 0 ≤ x ∧ x < 256
 | [], b, hb, hr => by
  have := ZaA b hb
  rw [ZO]
  refine ⟨by simp only [List.length_append, List.length_cons, List.length_nil]; omega, fun x hx => ?_⟩
  rcases List.mem_append.1 hx with h | h
  ·exact ZbG b hr x h
  ·simp at h; omega
 | n :: r, b, hb, hr => by
  rw [ZO]
  split
  ·have := Zb4 r b hb hr
   exact ⟨by rw [List.length_cons]; omega, this.2⟩
  ·have hd : (b.take n.toNat).length + (b.drop n.toNat).length = b.length := by rw [← List.length_append, List.take_append_drop]
   have h1 := Zb4 r (b.drop n.toNat) (by omega) (fun x hx => hr x (List.mem_of_mem_drop hx))
   have h2 := ZaA (b.take n.toNat) (by omega)
   refine ⟨by rw [List.length_append, List.length_cons]; omega, fun x hx => ?_⟩
   rcases List.mem_append.1 hx with h | h
   ·exact ZbG _ (fun y hy => hr y (List.mem_of_mem_take hy)) x h
   ·exact h1.2 x h
theorem ZdI (m p : BA) (l : List S113) (b more : BA) (body : List Int) (n : Nat) (h : BtP n body) : BtP (400 + n) (putV m p l b more body) := by
 refine ⟨by have := ZeW m p l b more body; have := h.1; omega, ?_⟩
 unfold putV
 split
 ·split
  ·simp
  ·intro x hx
   rcases List.mem_append.1 hx with hx | hx
   ·exact bytesOf_range _ x hx
   ·exact h.2 x hx
 ·simp
theorem ZcY (s : BA) (n : Nat) (h : s.size ≤ n) : BtP n (bytesOf s) := ⟨by rw [bytesOf_length]; exact h, bytesOf_range s⟩
theorem BtP.mono {n m : Nat} {l : List Int} (h : BtP n l) (hm : n ≤ m) : BtP m l := ⟨Nat.le_trans h.1 hm, h.2⟩
theorem Zem {m p : BA} {l : List S113} {b : BA} (h : RqP m p l b) : m.size ≤ 1048576 ∧ p.size ≤ 1048576 ∧ l.length ≤ 1048576 ∧ (∀ x ∈ l, x.f0.size ≤ 1048576 ∧ x.f1.size ≤ 1048576) ∧ b.size ≤ 1048576 :=
 ⟨by have := h.1; omega, by have := h.2.1; omega, by have := h.2.2.1.1; omega, fun x hx => by have := h.2.2.1.2 x hx; omega, by have := h.2.2.2; omega⟩
theorem Zcz (t : List Int) (ht : BtP 3000 t) (b : List Int) (i h : Int) (hb : b.length ≤ 1048576) (h0 : 0 ≤ i) (h1 : i ≤ b.length) : ∃ l i' h', Ev (fun k => spec_l3Bytes.j0 k t b i h) (l, i', h') ∧ BtP 4000 l ∧ 0 ≤ i' ∧ i' ≤ b.length := by
 obtain ⟨tl, tr⟩ := ht
 obtain ⟨v, i1, e1, f1, p1, a1, b1⟩ := Zy 8 b i h hb h0 h1
 have f1' : spec_l1Below.f b i h 8 = some (v, i1, e1) := f1
 obtain ⟨z, i3, e3, f3, p3, a3, b3⟩ := Zy ((t.length : Int) + 1) b i1 e1 hb a1 b1
 have f3' : spec_l1Below.f b i1 e1 ((t.length : Int) + 1) = some (z, i3, e3) := f3
 have hw : wrap64 ((t.length : Int) + 1) = (t.length : Int) + 1 := wrap_id (by omega) (by omega)
 have hz := p3.2 (by omega)
 have hz0 := p3.1
 by_cases c0 : v = 0
 ·obtain ⟨s, i2, e2, f2, p2, a2, b2⟩ := ZS [(⟨#[71, 69, 84, 32, 47, 32, 72, 84, 84, 80, 47, 49, 46, 49, 13, 10, 13, 10]⟩ : BA), (⟨#[71, 69, 84, 32, 47, 32, 72, 84, 84, 80, 47, 49, 46, 48, 13, 10, 13, 10]⟩ : BA), (⟨#[71, 69, 84, 32, 47, 13, 10, 13, 10]⟩ : BA), (⟨#[80, 85, 84, 32, 47, 32, 72, 84, 84, 80, 47, 49, 46, 49, 13, 10, 67, 111, 110, 116, 101, 110, 116, 45, 76, 101, 110, 103, 116, 104, 58, 32, 51, 13, 10, 13, 10, 97, 98, 99]⟩ : BA), (⟨#[80, 85, 84, 32, 47, 32, 72, 84, 84, 80, 47, 49, 46, 49, 13, 10, 99, 111, 110, 116, 101, 110, 116, 45, 108, 101, 110, 103, 116, 104, 58, 32, 50, 48, 49, 13, 10, 13, 10]⟩ : BA), (⟨#[80, 85, 84, 32, 47, 32, 72, 84, 84, 80, 47, 49, 46, 49, 13, 10, 99, 111, 110, 116, 101, 110, 116, 45, 108, 101, 110, 103, 116, 104, 58, 32, 49, 13, 10, 99, 111, 110, 116, 101, 110, 116, 45, 108, 101, 110, 103, 116, 104, 58, 32, 49, 13, 10, 13, 10, 97]⟩ : BA), (⟨#[80, 85, 84, 32, 47, 32, 72, 84, 84, 80, 47, 49, 46, 49, 13, 10, 116, 114, 97, 110, 115, 102, 101, 114, 45, 101, 110, 99, 111, 100, 105, 110, 103, 58, 32, 103, 122, 105, 112, 13, 10, 13, 10]⟩ : BA), (⟨#[80, 85, 84, 32, 47, 32, 72, 84, 84, 80, 47, 49, 46, 49, 13, 10, 84, 114, 97, 110, 115, 102, 101, 114, 45, 69, 110, 99, 111, 100, 105, 110, 103, 58, 32, 67, 72, 85, 78, 75, 69, 68, 13, 10, 13, 10, 49, 13, 10, 97, 13, 10, 48, 13, 10, 13, 10]⟩ : BA), (⟨#[65, 32, 47, 32, 72, 84, 84, 80, 47, 49, 46, 49, 13, 10, 120, 13, 10, 13, 10]⟩ : BA), (⟨#[65, 32, 47, 32, 72, 84, 84, 80, 47, 49, 46, 49, 13, 10, 32, 88, 32, 58, 32, 121, 32, 13, 10, 13, 10]⟩ : BA), (⟨#[65, 32, 47, 32, 72, 84, 84, 80, 47, 49, 46, 49, 13, 10, 88, 58, 9, 32, 121, 32, 13, 10, 13, 10]⟩ : BA), (⟨#[13, 10, 13, 10]⟩ : BA), (⟨#[80, 85, 84, 32, 47, 32, 72, 84, 84, 80, 47, 49, 46, 49, 13, 10, 99, 111, 110, 116, 101, 110, 116, 45, 108, 101, 110, 103, 116, 104, 58, 32, 48, 51, 13, 10, 13, 10, 97, 98, 99]⟩ : BA)] (by decide) b i1 e1 hb a1 b1
  have f2' : spec_l1Str.f b i1 e1 _ = some (s, i2, e2) := f2
  have hs : s.size ≤ 99 := (by decide : ∀ x ∈ _, x.size ≤ 99) s p2
  refine ⟨bytesOf s, i2, e2, ?_, ZcY s 4000 (by omega), a2, b2⟩
  apply ev_succ
  simp only [spec_l3Bytes.j0, f1', Option.bind_some, if_pos c0, f2', if_pos (show s.size < 140737488355328 by omega)]
  exact Ev.now _
 by_cases c1 : v = 1
 ·obtain ⟨u, i4, e4, f4, p4, a4, b4⟩ := ZdH [0, 13, 10, 32, 58, 65, 255] (by decide) b i3 e3 hb a3 b3
  have f4' : spec_l1Int.f b i3 e3 _ = some (u, i4, e4) := f4
  refine ⟨(([] ++ t.take z.toNat) ++ [u % 256]) ++ t.drop z.toNat, i4, e4, ?_, ⟨?_, ?_⟩, a4, b4⟩
  ·apply ev_succ
   simp only [spec_l3Bytes.j0, f1', Option.bind_some, if_neg c0, if_pos c1, hw, f3', if_pos hz0, if_pos (show z ≤ (t.length : Int) by omega), f4']
   rw [if_pos (by simp only [List.length_nil, List.length_take]; omega)]
   (try simp only [Option.bind_some])
   rw [if_pos (by simp only [List.length_nil, List.length_append, List.length_take]; omega)]
   (try simp only [Option.bind_some])
   rw [if_pos (by simp only [List.length_nil, List.length_append, List.length_take, List.length_drop, List.length_cons]; omega)]
   exact Ev.now _
  ·simp only [List.length_nil, List.length_append, List.length_take, List.length_drop, List.length_cons]; omega
  ·intro x hx
   simp only [List.nil_append, List.mem_append, List.mem_cons, List.not_mem_nil, or_false] at hx
   rcases hx with (hx | hx) | hx
   ·exact tr x (List.mem_of_mem_take hx)
   ·subst hx; omega
   ·exact tr x (List.mem_of_mem_drop hx)
 by_cases c2 : v = 2
 ·refine ⟨t.take z.toNat, i3, e3, ?_, ⟨by rw [List.length_take]; omega, fun x hx => tr x (List.mem_of_mem_take hx)⟩, a3, b3⟩
  apply ev_succ
  simp only [spec_l3Bytes.j0, f1', Option.bind_some, if_neg c0, if_neg c1, if_pos c2, hw, f3', if_pos hz0, if_pos (show z ≤ (t.length : Int) by omega)]
  exact Ev.now _
 by_cases c3 : v = 3
 ·obtain ⟨o, i4, e4, f4, _, a4, b4⟩ := ZbF 4 b i1 e1 hb a1 b1
  have f4' : spec_l1Once.f b i1 e1 4 = some (o, i4, e4) := f4
  cases o with
  | true =>
   obtain ⟨w, i5, e5, f5, p5, a5, b5⟩ := Zy 4 b i4 e4 hb a4 b4
   have f5' : spec_l1Below.f b i4 e4 4 = some (w, i5, e5) := f5
   have hw5 := p5.2 (by omega)
   have hw0 := p5.1
   have hw2 : wrap64 (399 + w) = 399 + w := wrap_id (by omega) (by omega)
   refine ⟨List.replicate (399 + w : Int).toNat 0, i5, e5, ?_, ⟨by rw [List.length_replicate]; omega, fun x hx => by rw [List.eq_of_mem_replicate hx]; omega⟩, a5, b5⟩
   apply ev_succ
   simp only [spec_l3Bytes.j0, f1', Option.bind_some, if_neg c0, if_neg c1, if_neg c2, if_pos c3, f4', if_true, f5', hw2, if_pos (show (0 : Int) ≤ 399 + w by omega), if_pos (show (399 + w : Int).toNat ≤ 281474976710656 by omega)]
   exact Ev.now _
  | false =>
   refine ⟨t, i4, e4, ?_, ⟨by omega, tr⟩, a4, b4⟩
   apply ev_succ
   simp only [spec_l3Bytes.j0, f1', Option.bind_some, if_neg c0, if_neg c1, if_neg c2, if_pos c3, f4', Bool.false_eq_true, if_false]
   exact Ev.now _
 ·refine ⟨t, i1, e1, ?_, ⟨by omega, tr⟩, a1, b1⟩
  apply ev_succ
  simp only [spec_l3Bytes.j0, f1', Option.bind_some, if_neg c0, if_neg c1, if_neg c2, if_neg c3]
  exact Ev.now _
theorem ZeF {m p : BA} {l : List S113} {y : BA} (h : RqP m p l y) : BtP 3000 (putReqV m p l y) := by
 unfold putReqV
 exact (ZdI m p l y _ (bytesOf y) 1000 (ZcY y 1000 h.2.2.2)).mono (by omega)
theorem ZcA (b : List Int) (i h : Int) (hb : b.length ≤ 1048576) (h0 : 0 ≤ i) (h1 : i ≤ b.length) : ∃ l i' h', Ev (fun k => spec_l3Bytes.f k b i h) (l, i', h') ∧ BtP 4000 l ∧ 0 ≤ i' ∧ i' ≤ b.length := by
 obtain ⟨m, p, d, y, i1, e1, f1, p1, _, a1, b1⟩ := ZcX b i h hb h0 h1
 obtain ⟨s1, s2, s3, s4, s5⟩ := Zem p1
 have ep := Za2 m p d y s1 s2 s3 s4 s5
 obtain ⟨o, i2, e2, f2, _, a2, b2⟩ := ZbF 3 b i1 e1 hb a1 b1
 have f2' : spec_l1Once.f b i1 e1 3 = some (o, i2, e2) := f2
 unfold spec_l3Bytes.f
 cases o with
 | true =>
  obtain ⟨v, i3, e3, f3, p3, a3, b3⟩ := Zy 4 b i2 e2 hb a2 b2
  have f3' : spec_l1Below.f b i2 e2 4 = some (v, i3, e3) := f3
  have ec := ZbD m p d y [v, 1, 2] s1 s2 s3 s4 s5 (by simp)
  have hy := bytesOf_length y
  have hc := Zb4 [v, 1, 2] (bytesOf y) (by omega) (bytesOf_range y)
  have hy9 := p1.2.2.2
  have hB := (ZdI m p d y TEl (ZO (bytesOf y) [v, 1, 2]) 2000 ⟨by have := hc.1; simp only [List.length_cons, List.length_nil] at this; omega, hc.2⟩).mono (show 400 + 2000 ≤ 3000 by omega)
  obtain ⟨l, i4, e4, f4, p4⟩ := Zcz _ hB b i3 e3 hb a3 b3
  refine ⟨l, i4, e4, Ev.bind f1 (Ev.bind ep ?_), p4⟩
  simp only [f2', Option.bind_some, if_true, f3']
  exact Ev.bind ec f4
 | false =>
  obtain ⟨l, i4, e4, f4, p4⟩ := Zcz _ (ZeF p1) b i2 e2 hb a2 b2
  refine ⟨l, i4, e4, Ev.bind f1 (Ev.bind ep ?_), p4⟩
  simp only [f2', Option.bind_some, Bool.false_eq_true, if_false]
  exact f4
theorem Zc6 (l : List Int) (h : Int) (hl : l.length ≤ 1048576) (hn : Ev (fun k => spec_l1New.f k l) (l, (0 : Int), h)) : ∃ g, Ev (fun k => spec_DrawGetReq.f k l) g ∧ BtP 8000 g := by
 obtain ⟨t, i1, e1, f1, p1, a1, b1⟩ := ZcA l 0 h hl (by omega) (by omega)
 obtain ⟨o, i2, e2, f2, _, a2, b2⟩ := ZbF 3 l i1 e1 hl a1 b1
 have f2' : spec_l1Once.f l i1 e1 3 = some (o, i2, e2) := f2
 unfold spec_DrawGetReq.f
 cases o with
 | true =>
  obtain ⟨t', i3, e3, f3, p3, a3, b3⟩ := ZcA l i2 e2 hl a2 b2
  obtain ⟨p1, p2⟩ := p1
  obtain ⟨p3, p4⟩ := p3
  refine ⟨t ++ t', Ev.bind hn (Ev.bind f1 ?_), by rw [List.length_append]; omega, fun x hx => (List.mem_append.1 hx).elim (p2 x) (p4 x)⟩
  simp only [f2', Option.bind_some, if_true]
  refine Ev.bind f3 ?_
  simp only []
  rw [if_pos (by omega)]
  exact Ev.now _
 | false =>
  refine ⟨t, Ev.bind hn (Ev.bind f1 ?_), p1.mono (by omega)⟩
  simp only [f2', Option.bind_some, Bool.false_eq_true, if_false]
  exact Ev.now _
theorem ZdJ : ∀ (n : Nat) (m p : BA) (l : List S113) (y : BA) (b : List Int) (i h : Int), 9 - l.length = n → l.length ≤ 9 → RqP m p l y → b.length ≤ 1048576 → 0 ≤ i → i ≤ b.length → ∃ l' i' h', Ev (fun k => spec_l3Any.l0 k b i h m p l y) (m, p, l', y, i', h') ∧ RqP m p l' y ∧ 0 ≤ i' ∧ i' ≤ b.length
 | n, m, p, l, y, b, i, h, hn, hl, hP, hb, h0, h1 => by
  obtain ⟨v, i1, e1, f1, p1, a1, b1⟩ := Zy 2 b i h hb h0 h1
  have f1' : spec_l1Below.f b i h 2 = some (v, i1, e1) := f1
  have hv := p1.2 (by omega)
  have hv0 := p1.1
  have hw : wrap64 (8 + v) = 8 + v := wrap_id (by omega) (by omega)
  by_cases q : (l.length : Int) < 8 + v
  ·obtain ⟨t, i2, e2, f2, p2, a2, b2⟩ := ZdH [0, 9, 60] (by decide) b i1 e1 hb a1 b1
   have f2' : spec_l1Int.f b i1 e1 _ = some (t, i2, e2) := f2
   have ht : 0 ≤ t ∧ t ≤ 60 := by simp only [List.mem_cons, List.not_mem_nil, or_false] at p2; omega
   match n, hn with
   | 0, hn => omega
   | n + 1, hn =>
   obtain ⟨hP2, hl2⟩ := Zb3 (x := ⟨(⟨#[120]⟩ : BA), (⟨#[115, 105, 120, 116, 121, 45, 98, 121, 116, 101, 115, 45, 111, 102, 45, 97, 45, 118, 97, 108, 117, 101, 45, 116, 104, 97, 116, 45, 105, 115, 45, 97, 115, 45, 108, 111, 110, 103, 45, 97, 115, 45, 97, 45, 118, 97, 108, 117, 101, 45, 109, 97, 121, 45, 98, 101, 45, 110, 111, 119]⟩ : BA).extract 0 (t : Int).toNat⟩) hP.2.2.1 (Nat.le_refl l.length) (by omega) (by show (⟨#[120]⟩ : BA).size ≤ 100; decide) (by
    show ((⟨#[115, 105, 120, 116, 121, 45, 98, 121, 116, 101, 115, 45, 111, 102, 45, 97, 45, 118, 97, 108, 117, 101, 45, 116, 104, 97, 116, 45, 105, 115, 45, 97, 115, 45, 108, 111, 110, 103, 45, 97, 115, 45, 97, 45, 118, 97, 108, 117, 101, 45, 109, 97, 121, 45, 98, 101, 45, 110, 111, 119]⟩ : BA).extract 0 t.toNat).size ≤ 100
    rw [ByteArray.size_extract]; omega)
   obtain ⟨l', i3, e3, f3, p3⟩ := ZdJ n m p _ y b i2 e2 (by rw [List.length_append]; simp; omega) (by omega) ⟨hP.1, hP.2.1, hP2, hP.2.2.2⟩ hb a2 b2
   refine ⟨l', i3, e3, ?_, p3⟩
   apply ev_succ
   simp only [spec_l3Any.l0, f1', Option.bind_some, hw, if_pos q, f2', if_pos ht.1, if_pos ht.2, if_pos (show l.length < 4398046511104 by omega)]
   exact f3
  ·refine ⟨l, i1, e1, ?_, hP, a1, b1⟩
   apply ev_succ
   simp only [spec_l3Any.l0, f1', Option.bind_some, hw, if_neg q]
   exact Ev.now _
theorem Ze2 (b : List Int) (i h : Int) (hb : b.length ≤ 1048576) (h0 : 0 ≤ i) (h1 : i ≤ b.length) : ∃ m p l y i' h', Ev (fun k => spec_l3Any.f k b i h) (m, p, l, y, i', h') ∧ RqP m p l y ∧ 0 ≤ i' ∧ i' ≤ b.length := by
 obtain ⟨m, p, l, y, i1, e1, f1, p1, q1, a1, b1⟩ := ZcX b i h hb h0 h1
 obtain ⟨v, i2, e2, f2, p2, a2, b2⟩ := Zy 12 b i1 e1 hb a1 b1
 have f2' : spec_l1Below.f b i1 e1 12 = some (v, i2, e2) := f2
 obtain ⟨pm, pp, pl, py⟩ := p1
 unfold spec_l3Any.f
 by_cases c0 : v = 0
 ·obtain ⟨z, i3, e3, f3, p3, a3, b3⟩ := ZS [(⟨#[]⟩ : BA), (⟨#[103, 101, 116]⟩ : BA), (⟨#[84, 69, 78, 76, 69, 84, 84, 69, 82, 83]⟩ : BA), (⟨#[65, 32, 66]⟩ : BA)] (by decide) b i2 e2 hb a2 b2
  have f3' : spec_l1Str.f b i2 e2 _ = some (z, i3, e3) := f3
  have hz : z.size ≤ 19 := (by decide : ∀ x ∈ _, x.size ≤ 19) z p3
  refine ⟨z, p, l, y, i3, e3, Ev.bind f1 ?_, ⟨by omega, pp, pl, py⟩, a3, b3⟩
  simp only [f2', Option.bind_some, if_pos c0, f3']; exact Ev.now _
 by_cases c1 : v = 1
 ·obtain ⟨z, i3, e3, f3, p3, a3, b3⟩ := ZS [(⟨#[]⟩ : BA), (⟨#[97, 32, 98]⟩ : BA), (⟨#[127]⟩ : BA)] (by decide) b i2 e2 hb a2 b2
  have f3' : spec_l1Str.f b i2 e2 _ = some (z, i3, e3) := f3
  have hz : z.size ≤ 19 := (by decide : ∀ x ∈ _, x.size ≤ 19) z p3
  refine ⟨m, z, l, y, i3, e3, Ev.bind f1 ?_, ⟨pm, by omega, pl, py⟩, a3, b3⟩
  simp only [f2', Option.bind_some, if_neg c0, if_pos c1, f3']; exact Ev.now _
 by_cases c2 : v = 2
 ·obtain ⟨z, i3, e3, f3, p3, a3, b3⟩ := ZS [(⟨#[99, 111, 110, 116, 101, 110, 116, 45, 108, 101, 110, 103, 116, 104]⟩ : BA), (⟨#[88]⟩ : BA), (⟨#[]⟩ : BA), (⟨#[97]⟩ : BA)] (by decide) b i2 e2 hb a2 b2
  have f3' : spec_l1Str.f b i2 e2 _ = some (z, i3, e3) := f3
  have hz : z.size ≤ 19 := (by decide : ∀ x ∈ _, x.size ≤ 19) z p3
  obtain ⟨u, i4, e4, f4, p4, a4, b4⟩ := ZS [(⟨#[32, 97]⟩ : BA), (⟨#[97]⟩ : BA), (⟨#[13, 10]⟩ : BA)] (by decide) b i3 e3 hb a3 b3
  have f4' : spec_l1Str.f b i3 e3 _ = some (u, i4, e4) := f4
  have hu : u.size ≤ 19 := (by decide : ∀ x ∈ _, x.size ≤ 19) u p4
  obtain ⟨hP2, _⟩ := Zb3 (x := ⟨z, u⟩) pl q1 (by omega) (by show z.size ≤ 100; omega) (by show u.size ≤ 100; omega)
  refine ⟨m, p, l ++ [⟨z, u⟩], y, i4, e4, Ev.bind f1 ?_, ⟨pm, pp, hP2, py⟩, a4, b4⟩
  simp only [f2', Option.bind_some, if_neg c0, if_neg c1, if_pos c2, f3', f4', if_pos (show l.length < 4398046511104 by omega)]; exact Ev.now _
 by_cases c3 : v = 3
 ·obtain ⟨z, i3, e3, f3, p3, a3, b3⟩ := Zy 2 b i2 e2 hb a2 b2
  have f3' : spec_l1Below.f b i2 e2 2 = some (z, i3, e3) := f3
  have hz := p3.2 (by omega)
  have hz0 := p3.1
  have hw : wrap64 (200 + z) = 200 + z := wrap_id (by omega) (by omega)
  refine ⟨m, p, l, strOfNums (List.replicate (200 + z : Int).toNat 0), i3, e3, Ev.bind f1 ?_, ⟨pm, pp, pl, ?_⟩, a3, b3⟩
  ·simp only [f2', Option.bind_some, if_neg c0, if_neg c1, if_neg c2, if_pos c3, f3', hw, if_pos (show (0 : Int) ≤ 200 + z by omega), if_pos (show (200 + z : Int).toNat ≤ 281474976710656 by omega)]; exact Ev.now _
  ·rw [size_len, bytesOf_strOfNums _ (fun x hx => by rw [List.eq_of_mem_replicate hx]; omega), List.length_replicate]; omega
 by_cases c4 : v = 4
 ·obtain ⟨l', i3, e3, f3, p3, a3, b3⟩ := ZdJ (9 - l.length) m p l y b i2 e2 rfl q1 ⟨pm, pp, pl, py⟩ hb a2 b2
  refine ⟨m, p, l', y, i3, e3, Ev.bind f1 ?_, p3, a3, b3⟩
  simp only [f2', Option.bind_some, if_neg c0, if_neg c1, if_neg c2, if_neg c3, if_pos c4]; exact f3
 ·refine ⟨m, p, l, y, i2, e2, Ev.bind f1 ?_, ⟨pm, pp, pl, py⟩, a2, b2⟩
  simp only [f2', Option.bind_some, if_neg c0, if_neg c1, if_neg c2, if_neg c3, if_neg c4]; exact Ev.now _
theorem ZbK (a b : List S113) (ha : a.length ≤ 9223372036854775806) : Ev (fun k => impl_sameHeads.f k a b) (eqb a b) := by
 unfold impl_sameHeads.f
 refine ev_ite (fun q => ?_) (fun q => ?_)
 ·have q' : a.length = b.length := by omega
  refine eq_loop a b (· = ·) q' ha (fun i k => impl_sameHeads.l0 k a b (a.length : Int) (i : Int)) _ ((eqb_iff a b).trans (list_eq_iff a b q')) ?_ ?_
  ·intro i hi
   apply ev_succ; simp only [impl_sameHeads.l0, if_neg (show ¬ (i : Int) < a.length by omega)]; exact Ev.now _
  ·intro i x y v hi hx hy hw1 ih
   have hxx : rd_T113 a (i : Int) = x := hx _
   have hyy : rd_T113 b (i : Int) = y := hy _
   refine ⟨fun hR => ?_, fun hR => ?_⟩
   ·apply ev_succ
    subst hR
    simp only [impl_sameHeads.l0, if_pos (show (i : Int) < a.length by omega), if_pos (show (0 : Int) ≤ i by omega), if_pos (show (i : Int) < b.length by omega), hxx, hyy, hw1, beq_self_eq_true, Bool.not_true, Bool.or_self, Bool.false_eq_true, if_false]; exact ih
   ·apply ev_succ
    simp only [impl_sameHeads.l0, if_pos (show (i : Int) < a.length by omega), if_pos (show (0 : Int) ≤ i by omega), if_pos (show (i : Int) < b.length by omega), hxx, hyy, hw1]
    refine ev_ite (fun _ => Ev.now _) (fun hn => absurd ?_ hn)
    rw [Ze8] at hR
    simp only [Bool.or_eq_true, Bool.not_eq_true', beq_eq_false_iff_ne, ne_eq, toList_iff]
    by_cases e0 : x.f0 = y.f0
    ·exact .inr (fun e1 => hR ⟨e0, e1⟩)
    ·exact .inl e0
 ·rw [eqb_ne (fun h => q (by rw [h]))]; exact Ev.now _
theorem Zen (a b : BA) : (a.toList == b.toList) = eqb a b := by
 rw [Bool.eq_iff_iff, beq_iff_eq, toList_iff, eqb_iff]
theorem ZaQ (m p : BA) (l : List S113) (b : BA) (m' p' : BA) (l' : List S113) (b' : BA) (hl : l.length ≤ 9223372036854775806) : Ev (fun k => impl_SameReq.f k m p l b m' p' l' b') (decb (Zdx m p l b m' p' l' b')) := by
 unfold impl_SameReq.f
 refine ev_ite (fun q => ?_) (fun q => ?_)
 ·rw [toList_iff] at q
  refine ev_ite (fun q0 => ?_) (fun q0 => ?_)
  ·rw [toList_iff] at q0
   refine Ev.bind (ZbK l l' hl) (ev_iteB (fun q1 => ?_) (fun q1 => ?_))
   ·rw [eqb_iff] at q1
    rw [Zen, show eqb b b' = decb (Zdx m p l b m' p' l' b') from eqb_congr2 ⟨fun h => ⟨q, q0, q1, h⟩, fun h => h.2.2.2⟩]; exact Ev.now _
   ·have : ¬ l = l' := fun h => by rw [(eqb_iff l l').mpr h] at q1; cases q1
    rw [decb_false (fun h => this h.2.2.1)]; exact Ev.now _
  ·rw [toList_iff] at q0; rw [decb_false (fun h => q0 h.2.1)]; exact Ev.now _
 ·rw [toList_iff] at q; rw [decb_false (fun h => q h.1)]; exact Ev.now _
theorem Zfh (l : List Int) (hl : l.length ≤ 1048575) (hr : ∀ x ∈ l, 0 ≤ x ∧ x < 256) : (ZV l).2.2.1.length ≤ 1048577 ∧ ∀ x ∈ (ZV l).2.2.1, x.f0.size ≤ 1048576 ∧ x.f1.size ≤ 1048576 := by
 have hz : ([] : List S113).length ≤ 1048577 ∧ ∀ x ∈ ([] : List S113), x.f0.size ≤ 1048576 ∧ x.f1.size ≤ 1048576 := ⟨Nat.zero_le _, fun x hx => absurd hx (by simp)⟩
 unfold ZV
 split
 ·split <;> exact hz
 ·obtain ⟨h, h2, _⟩ := (Zdc (l.take ((Zc l).toNat - 4)) (by rw [List.length_take]; omega) (fun x hx => hr x (List.mem_of_mem_take hx))).1
  unfold ZaS
  split
  ·exact hz
  ·split
   ·split
    ·exact ⟨h, h2⟩
    ·exact hz
   ·split
    ·exact hz
    ·exact ⟨h, h2⟩
theorem Zc7 (l : List Int) (h : Int) (hl : l.length ≤ 1048576) (hn : Ev (fun k => spec_l1New.f k l) (l, (0 : Int), h)) : ∃ m p d y, Ev (fun k => spec_DrawPutReq.f k l) (m, p, d, y) ∧ RqP m p d y := by
 obtain ⟨m, p, d, y, i1, e1, f1, p1, a1, b1⟩ := Ze2 l 0 h hl (by omega) (by omega)
 refine ⟨m, p, d, y, ?_, p1⟩
 unfold spec_DrawPutReq.f
 exact Ev.bind hn (Ev.bind f1 (Ev.now _))
theorem ZeG (m u : BA) (d : List S113) (y : BA) (hq : RqP m u d y) : Ev (fun k => laws_FnReqs.j0 k (putReqV m u d y) false m u d y) true := by
 obtain ⟨s1, s2, s3, s4, s5⟩ := Zem hq
 have ps := Za2 m u d y s1 s2 s3 s4 s5
 have hs9 := ZaQ m u d y m u d y (by have := hq.2.2.1.1; omega)
 rw [decb_true ⟨rfl, rfl, rfl, rfl⟩] at hs9
 have hyl := bytesOf_length y
 have hys := hq.2.2.2
 have hV : BtP (400 + 2000) (putReqV m u d y) := ZdI m u d y _ _ 2000 ⟨by omega, bytesOf_range y⟩
 have rt := fun h => Ze0 (m := m) (p := u) (hs := d) (b := y) h [120, 13, 10]
 have ho : putReqV m u d y ≠ [] → ZN m u d y = true := fun h => (ZcH h).1
 have hro := Zat m u d y s1 s2 (by omega) s4
 generalize putReqV m u d y = V at ps hV rt ho
 apply ev_succ
 simp only [laws_FnReqs.j0, Bool.false_eq_true, if_false]
 by_cases hV0 : V = []
 ·simp only [if_pos (show (V.length : Int) = 0 by rw [hV0]; rfl)]
  refine Ev.bind ps ?_
  rw [hV0]
  exact Ev.now _
 ·have hv1 : 0 < V.length := List.length_pos_iff.2 hV0
  have hvl := hV.1
  have hg := ZcR (V ++ [120, 13, 10]) (by rw [List.length_append]; simp only [List.length_cons, List.length_nil]; omega) (fun x hx => by
   rcases List.mem_append.1 hx with hx | hx
   ·exact hV.2 x hx
   ·simp at hx; omega)
  rw [rt hV0] at hg
  simp only [if_neg (show ¬ (V.length : Int) = 0 by omega), Option.bind_some, List.nil_append, List.length_nil, List.length_cons, if_pos (show 0 + V.length < 140737488355328 by omega), if_pos (show V.length + (0 + 1 + 1 + 1) < 140737488355328 by omega)]
  refine Ev.bind hg ?_
  simp only [if_true]
  refine Ev.bind hs9 ?_
  simp only [if_true]
  refine Ev.bind hro ?_
  rw [ho hV0]
  exact Ev.now _
theorem FnReqs : laws_FnReqs.Pure := by
 intro l hl0 _
 apply Ev.rounds
 unfold laws_FnReqs.f laws_big.f
 simp only [Option.bind_some]
 refine ev_iteB (fun _ => Ev.now _) (fun q => ?_)
 have hl : l.length ≤ 1048576 := by
  have := of_decide_eq_false q
  omega
 obtain ⟨h, hn⟩ := Ze1 l hl
 obtain ⟨m, u, d, y, e1, hq⟩ := Zc7 l h hl hn
 obtain ⟨g, eg, hg, gr⟩ := Zc6 l h hl hn
 obtain ⟨s1, s2, s3, s4, s5⟩ := Zem hq
 have hj := ZeG m u d y hq
 have gi := ZcR g (by omega) gr
 have gs := ZcD g (by omega) gr
 obtain ⟨hh, hh2⟩ := Zfh g (by omega) gr
 have gok := Zfd g (by omega) gr
 have ge := ZeD g
 refine Ev.bind e1 (Ev.bind (ZcE m u d y s1 s2 s3 s4 s5) (Ev.bind eg (Ev.bind gi (Ev.bind gs ?_))))
 clear gi gs eg e1 hn
 simp only [Zdd, Zfm] at gok ge
 generalize ZV g = Q at hh hh2 gok ge
 obtain ⟨a, b, c, e, n, k⟩ := Q
 simp only [] at hh hh2 gok ge
 simp only [if_true]
 have hs := ZaQ a b c e a b c e (by omega)
 rw [decb_true ⟨rfl, rfl, rfl, rfl⟩] at hs
 refine Ev.bind hs ?_
 simp only [if_true]
 by_cases c0 : k = 0
 ·simp only [if_pos c0]
  have hok := gok c0
  have hok2 := hok
  unfold ZN Zv Zj Z7 at hok2
  simp only [Bool.and_eq_true, decide_eq_true_eq] at hok2
  obtain ⟨q1, q2, _⟩ := hok2
  have hro := Zat a b c e (by omega) (by omega) (by omega) hh2
  rw [hok] at hro
  refine Ev.bind hro ?_
  simp only [if_true]
  exact hj
 ·simp only [if_neg c0]
  have := ge c0
  subst this
  rw [bne_self_eq_false]
  exact hj
end Go.Proofs.YtaajhdljdmbhhaaGreatDoor.Pure
