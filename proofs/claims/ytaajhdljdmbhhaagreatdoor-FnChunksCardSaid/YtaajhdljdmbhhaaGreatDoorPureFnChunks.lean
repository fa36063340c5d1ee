/- A body comes back of whatever pieces, and so does a request in pieces, and cut it asks for more, for all codes; no condition. -/
import Derived.Test.YtaajhdljdmbhhaaGreatDoorGFnChunksx17
import Derived.Test.YtaajhdljdmbhhaaGreatDoorBase
import Derived.Lib.IndexMore
import Derived.Lib.Index
import Derived.Lib.SplitLaws
import Derived.Lib.IndexBytes
import Derived.Lib.ItoaNum
import Derived.Lib.AtoiTie
import Derived.Lib.Bytealg
import Derived.Lib.SlTrimSet
namespace Go.Proofs.YtaajhdljdmbhhaaGreatDoor.Pure
open Go.RowKit Go.Proofs.YtaajhdljdmbhhaaGreatDoor.GFnChunks Go.Proofs.YtaajhdljdmbhhaaGreatDoor.Base Go.Proofs.YtaajhdljdmbhhaaGreatDoorW.PrintWords Go.Proofs.YtaajhdljdmbhhaaGreatDoorW.PrintLast
set_option linter.unusedVariables false
set_option linter.unusedSimpArgs false


abbrev BA := ByteArray
def ZL (c : Int) : Bool := decide (32 ≤ c) && decide (c ≤ 126)
def Za4 (c : Int) : Bool := decide (97 ≤ c) && decide (c ≤ 122)
def ZY (c : Int) : Bool := decide (48 ≤ c) && decide (c ≤ 57)
def Zy (c : Int) : Bool := decide (65 ≤ c) && decide (c ≤ 90)
theorem Zx (c a b : Int) : spec_l1In.f c a b = some (decide (a ≤ c) && decide (c ≤ b)) := by
 unfold spec_l1In.f; split <;> simp [*] <;> omega
theorem ZbQ (c : Int) (h : wrap64 c = c) : spec_l1Digit.f c = some (ZY c) := by
 unfold spec_l1Digit.f; rw [h, Zx]; rfl
theorem ZbR (c : Int) : impl_isDigit.f c = some (ZY c) := by
 unfold impl_isDigit.f ZY; split <;> simp [*] <;> omega
def Zz (c : Int) : Int := if ZY c = true then c - 48 else if 97 ≤ c ∧ c ≤ 102 then c - 87 else if 65 ≤ c ∧ c ≤ 70 then c - 55 else -1
theorem ZaO (c : Int) : -1 ≤ Zz c ∧ Zz c < 16 := by
 unfold Zz ZY
 split
 ·rename_i h; simp at h; omega
 ·split
  ·omega
  ·split <;> omega
theorem ZdH (c : Int) (h0 : 0 ≤ c) (h1 : c < 256) : Ev (fun k => impl_digitOf.f k c) (Zz c) := by
 have H : ∀ k, impl_digitOf.f (k + 1) c = some (Zz c) := by
  intro k
  simp only [impl_digitOf.f, ZbR, Option.bind_some, impl_digitOf.j0, Zz]
  by_cases a1 : 48 ≤ c <;> by_cases a2 : c ≤ 57 <;> by_cases a3 : 97 ≤ c <;> by_cases a4 : c ≤ 102 <;> by_cases a5 : 65 ≤ c <;> by_cases a6 : c ≤ 70
  all_goals first | (exfalso; omega) | (simp [ZY, a1, a2, a3, a4, a5, a6, ge_iff_le]; done) | (simp [ZY, a1, a2, a3, a4, a5, a6, ge_iff_le]; omega)
 exact Ev.step H (Ev.now _)
theorem ZdI (c : Int) (h0 : 0 ≤ c) (h1 : c < 256) : spec_l1HexOf.f c = some (Zz c) := by
 have hw : wrap64 c = c := wrap_id (by omega) (by omega)
 simp only [spec_l1HexOf.f, ZbQ c hw, Option.bind_some, hw, Zx, Zz]
 by_cases q : ZY c = true
 ·rw [if_pos q, if_pos q, wrap_id (by omega) (by omega)]
 ·rw [if_neg q, if_neg q]
  by_cases q1 : 97 ≤ c ∧ c ≤ 102
  ·rw [if_pos (by simpa using q1), if_pos q1, wrap_id (x := c - 97) (by omega) (by omega), wrap_id (by omega) (by omega)]; congr 1; omega
  ·rw [if_neg (by simpa using q1), if_neg q1]
   by_cases q2 : 65 ≤ c ∧ c ≤ 70
   ·rw [if_pos (by simpa using q2), if_pos q2, wrap_id (x := c - 65) (by omega) (by omega), wrap_id (by omega) (by omega)]; congr 1; omega
   ·rw [if_neg (by simpa using q2), if_neg q2]
def phL : Nat → Int → List Int → Int × Bool
 | i, n, [] => (n, decide (i ≠ 0))
 | i, n, c :: r => if Zz c < 0 then (0, false) else if i ≥ 4 then (0, false) else phL (i + 1) (n * 16 + Zz c) r
def Zat (s : BA) : Int × Bool := phL 0 0 (bytesOf s)
theorem ZcL {i : Nat} (h : i ≤ 4) : (16 : Int) ^ i ≤ 65536 := by
 rcases i with _ | _ | _ | _ | _ | i
 all_goals first | omega | decide
theorem ZbC (s : BA) (hs : s.size ≤ 140737488351232) : Ev (fun k => impl_ParseHex.f k s) (Zat s) := by
 refine str_loop_st s (fun i n k => impl_ParseHex.l0 k s n (i : Int)) phL (fun i n r => i ≤ 4 ∧ 0 ≤ n ∧ n < 16 ^ i ∧ i + r.length = s.size) ?_ ?_ hs 0 0 ⟨by omega, by omega, by simp, by simp [bytesOf_length]⟩
 ·intro i n ⟨_, _, _, hl⟩ hi
  apply ev_succ; simp only [impl_ParseHex.l0, if_neg (show ¬ (i : Int) < s.size by omega)]
  have : (s.toList != ([] : List UInt8)) = decide (i ≠ 0) := by
   rw [Lib.toList_data]
   have h2 := data_length s
   simp at hl
   rw [Bool.eq_iff_iff]
   simp only [bne_iff_ne, ne_eq, decide_eq_true_eq]
   rw [← List.length_eq_zero_iff, h2, hl]
  rw [this]; exact Ev.now _
 ·intro i n c r ⟨h4, h0, hn, hl⟩ h hb hi hw hw1 ih
  have hc := bytesOf_range s c (List.mem_of_mem_drop (by rw [h]; simp : c ∈ (bytesOf s).drop i))
  have hd := ZaO c
  have h16 := ZcL h4
  apply ev_succ
  simp only [impl_ParseHex.l0, if_pos (show (i : Int) < s.size by omega), if_pos (show (0 : Int) ≤ i by omega), hb, hw1]
  refine Ev.bind (ZdH c hc.1 hc.2) (ev_ite (fun q => ?_) (fun q => ev_ite (fun q1 => ?_) (fun q1 => ?_)))
  ·simpa [phL, q] using Ev.now (0, false)
  ·have : i ≥ 4 := by omega
   simpa [phL, q, this] using Ev.now (0, false)
  ·have h5 : ¬ i ≥ 4 := by omega
   rw [wrap_id (x := 16 * n) (by omega) (by omega), wrap_id (by omega) (by omega)]
   have := ih (n * 16 + Zz c) ⟨by omega, by omega, by rw [Int.pow_succ]; omega, by simp at hl ⊢; omega⟩
   simp only [phL, if_neg q, if_neg h5]
   rw [show 16 * n + Zz c = n * 16 + Zz c by omega]; exact this
theorem Zau (s : BA) (hs : s.size ≤ 140737488351232) : Ev (fun k => spec_ParseHex.f k s) (Zat s) := by
 refine str_loop_st s (fun i n k => spec_ParseHex.l0 k s n (i : Int)) phL (fun i n r => i ≤ 4 ∧ 0 ≤ n ∧ n < 16 ^ i ∧ i + r.length = s.size) ?_ ?_ hs 0 0 ⟨by omega, by omega, by simp, by simp [bytesOf_length]⟩
 ·intro i n ⟨h4, h0, hn, hl⟩ hi
  simp at hl
  apply ev_succ; simp only [spec_ParseHex.l0, if_neg (show ¬ (i : Int) < s.size by omega)]
  apply ev_succ; simp only [spec_ParseHex.j1, if_neg (show ¬ false = true by simp), Zx, Option.bind_some, phL]
  by_cases q : i = 0
  ·subst q
   have h1 : s.size = 0 := by omega
   have h2 : n = 0 := by simp at hn; omega
   subst h2
   simpa [h1] using Ev.now ((0 : Int), false)
  ·simp only [decide_eq_true (show (1 : Int) ≤ s.size by omega), decide_eq_true (show (s.size : Int) ≤ 4 by omega), Bool.and_self, if_true]
   simpa [q] using Ev.now (n, true)
 ·intro i n c r ⟨h4, h0, hn, hl⟩ h hb hi hw hw1 ih
  have hc := bytesOf_range s c (List.mem_of_mem_drop (by rw [h]; simp : c ∈ (bytesOf s).drop i))
  have hd := ZaO c
  have h16 := ZcL h4
  apply ev_succ
  simp only [spec_ParseHex.l0, if_pos (show (i : Int) < s.size by omega)]
  apply ev_succ
  simp only [spec_ParseHex.j1, decide_eq_true (show (i : Int) < 5 by omega), if_true, if_pos (show (i : Int) < s.size by omega), if_pos (show (0 : Int) ≤ i by omega), hb, hw1, ZdI c hc.1 hc.2, Option.bind_some]
  refine ev_ite (fun q => ?_) (fun q => ?_)
  ·simpa [phL, q] using Ev.now ((0 : Int), false)
  ·rw [wrap_id (x := n * 16) (by omega) (by omega), wrap_id (by omega) (by omega)]
   by_cases q1 : i ≥ 4
   ·simp only [phL, if_neg q, if_pos q1]
    have e4 : i = 4 := by omega
    subst e4
    apply ev_succ
    simp at hl
    have h5 : (s.size : Int) ≥ 5 := by omega
    by_cases q2 : ((4 + 1 : Nat) : Int) < s.size
    ·simp only [spec_ParseHex.l0, if_pos q2]
     apply ev_succ
     simp only [spec_ParseHex.j1, decide_eq_false (show ¬ ((4 + 1 : Nat) : Int) < 5 by decide), if_neg (show ¬ false = true by simp), Zx, Option.bind_some]
     simpa [decide_eq_false (show ¬ (s.size : Int) ≤ 4 by omega)] using Ev.now ((0 : Int), false)
    ·simp only [spec_ParseHex.l0, if_neg q2]
     apply ev_succ
     simp only [spec_ParseHex.j1, if_neg (show ¬ false = true by simp), Zx, Option.bind_some]
     simpa [decide_eq_false (show ¬ (s.size : Int) ≤ 4 by omega)] using Ev.now ((0 : Int), false)
   ·simp only [phL, if_neg q, if_neg q1]
    exact ih (n * 16 + Zz c) ⟨by omega, by omega, by rw [Int.pow_succ]; omega, by simp at hl ⊢; omega⟩
theorem Zeh {l : List Int} (h : ∀ x ∈ l, (Lit.int .u8 x).wf = true) : ∀ x ∈ l, 0 ≤ x ∧ x < 256 := by
 intro x hx
 have := h x hx
 simp [Lit.wf, IntKind.min, IntKind.max, IntKind.signed, IntKind.bits] at this
 omega
theorem ZcM (c a b : Int) : impl_in.f c a b = some (decide (a ≤ c) && decide (c ≤ b)) := by
 unfold impl_in.f; split <;> simp [*] <;> omega
theorem ZaP {a : Int} (h0 : 0 ≤ a) (h1 : a < 256) (n : Nat) (hn : n < 256) : (UInt8.ofNat n == UInt8.ofNat a.toNat) = decide (a = n) := by
 rw [Bool.eq_iff_iff, beq_iff_eq, decide_eq_true_iff]
 constructor
 ·intro h
  have := congrArg UInt8.toNat h
  simp only [UInt8.toNat_ofNat'] at this
  omega
 ·rintro rfl; simp
theorem ZbS (r : List Int) : ((strOfNums r).toList = ([] : List UInt8)) ↔ r = [] := by
 rw [Lib.toList_data, strOfNums_data]; simp
theorem Zad (r : List Int) (hr : ∀ x ∈ r, 0 ≤ x ∧ x < 256) : bytesOf (strOfNums r) = r := bytesOf_strOfNums r hr
theorem ZeU {r : List Int} {a : Int} {t : List Int} (hr : ∀ x ∈ r, 0 ≤ x ∧ x < 256) (h : r = a :: t) : bt (strOfNums r) 0 = a :=
 (bt_drop (s := strOfNums r) (i := 0) (c := a) (r := t) (by rw [Zad r hr, h]; rfl)).1
theorem ZcQ (r : List Int) (hr : ∀ x ∈ r, 0 ≤ x ∧ x < 256) (i j : Nat) : (strOfNums r).extract i j = strOfNums ((r.take j).drop i) := by
 apply bytesOf_inj
 rw [bytesOf_extract, Zad r hr, Zad _ (fun x hx => hr x (List.mem_of_mem_take (List.mem_of_mem_drop hx)))]
theorem Zbm (r : List Int) (hr : ∀ x ∈ r, 0 ≤ x ∧ x < 256) (i : Nat) : (strOfNums r).extract i (strOfNums r).size = strOfNums (r.drop i) := by
 rw [ZcQ r hr, strOfNums_size, List.take_length]
def Zb : List Int → Int × List Int
 | [] => (1, [])
 | a :: t => if a = 13 then (match t with | [] => (1, []) | b :: u => if b = 10 then (0, u) else (400, b :: u)) else (400, a :: t)
theorem ZaA {r : List Int} (h : (Zb r).1 = 0) : r = 13 :: 10 :: (Zb r).2 := by
 match r, h with
 | [], h => simp [Zb] at h
 | [a], h => by_cases q : a = 13 <;> simp [Zb, q] at h
 | a :: b :: u, h =>
  by_cases q : a = 13
  ·by_cases q1 : b = 10
   ·simp [Zb, q, q1]
   ·simp [Zb, q, q1] at h
  ·simp [Zb, q] at h
theorem ZcR (i : Int) (s : BA) (c : Int) (hc : c ≠ 0) : Ev (fun k => impl_chunks_end.l0 k i s c) (s, c) := by
 have hj : Ev (fun k => impl_chunks_end.j1 k i false s c) (s, c) := by
  apply ev_succ; simp only [impl_chunks_end.j1, Bool.false_eq_true, if_false]; exact Ev.now _
 apply ev_succ
 simp only [impl_chunks_end.l0, beq_eq_false_iff_ne.2 hc]
 exact ev_ite (fun _ => hj) (fun _ => hj)
theorem Zez (s : BA) (c : Int) : Ev (fun k => impl_chunks_end.l0 k 2 s c) (s, c) := by
 apply ev_succ
 simp only [impl_chunks_end.l0, if_neg (show ¬ (2 : Int) < 2 by omega)]
 apply ev_succ; simp only [impl_chunks_end.j1, Bool.false_eq_true, if_false]; exact Ev.now _
theorem ZcS (i b : Int) (hi0 : 0 ≤ i) (hi : i < 2) (hb : bt (⟨#[13, 10]⟩ : BA) i = b) (r : List Int) (hr : ∀ x ∈ r, 0 ≤ x ∧ x < 256) (X : BA × Int)
  (h0 : r = [] → X = (strOfNums r, 1)) (h1 : ∀ a t, r = a :: t → a ≠ b → X = (strOfNums r, 400))
  (h2 : ∀ t, r = b :: t → Ev (fun k => impl_chunks_end.l0 k (i + 1) (strOfNums t) 0) X) : Ev (fun k => impl_chunks_end.l0 k i (strOfNums r) 0) X := by
 have hw : wrap64 (i + 1) = i + 1 := wrap_id (by omega) (by omega)
 apply ev_succ
 simp only [impl_chunks_end.l0, if_pos hi, beq_self_eq_true]
 apply ev_succ
 simp only [impl_chunks_end.j1, if_true, hw, hb, if_pos hi0, if_pos hi]
 refine ev_ite (fun q => ?_) (fun q => ?_)
 ·rw [ZbS] at q
  rw [h0 q]; exact ZcR _ _ _ (by omega)
 ·rw [ZbS] at q
  match hm : r, q with
  | a :: t, _ =>
   have hs : (strOfNums (a :: t)).size = t.length + 1 := by rw [strOfNums_size]; rfl
   simp only [hs, if_pos (show (0 : Int) < ((t.length + 1 : Nat) : Int) by omega), ZeU hr rfl, if_pos (show (1 : Int) ≤ ((t.length + 1 : Nat) : Int) by omega)]
   refine ev_ite (fun q1 => ?_) (fun q1 => ?_)
   ·subst q1
    have e := Zbm (a :: t) hr 1
    rw [hs] at e
    rw [e]
    exact h2 t rfl
   ·rw [h1 a t rfl q1]; exact ZcR _ _ _ (by omega)
theorem ZcT (r : List Int) (hr : ∀ x ∈ r, 0 ≤ x ∧ x < 256) : Ev (fun k => impl_chunks_end.f k (strOfNums r) 0) (strOfNums (Zb r).2, (Zb r).1) := by
 unfold impl_chunks_end.f
 refine ZcS 0 13 (by omega) (by omega) rfl r hr _ (fun h => by rw [h]; rfl) (fun a t h q => by rw [h]; simp [Zb, q]) (fun t h => ?_)
 have ht : ∀ x ∈ t, 0 ≤ x ∧ x < 256 := fun x hx => hr x (by rw [h]; simp [hx])
 refine ZcS 1 10 (by omega) (by omega) rfl t ht _ (fun h1 => by rw [h, h1]; rfl) (fun a u h1 q => by rw [h, h1]; simp [Zb, q]) (fun u h1 => ?_)
 rw [h, h1]
 exact Zez _ _
theorem Zbn {l : List Int} {p : Nat} {a : Int} {t : List Int} (h : l.drop p = a :: t) : rd l (p : Int) = a ∧ p < l.length ∧ l.drop (p + 1) = t := by
 obtain ⟨h1, h2, h3, _⟩ := l_drop h
 exact ⟨h1 _, h2, h3⟩
theorem Zav {l : List Int} {p : Nat} (h : l.drop p = []) : l.length ≤ p := List.drop_eq_nil_iff.1 h
theorem Zei (l : List Int) (p : Nat) (hl : l.length ≤ 9223372036854775000) : spec_l4End.f l (p : Int) = some (Zb (l.drop p)).1 := by
 unfold spec_l4End.f
 match hd : l.drop p with
 | [] =>
  have := Zav hd
  rw [if_pos (by omega)]; rfl
 | a :: t =>
  obtain ⟨h1, h2, h3⟩ := Zbn hd
  have hw : wrap64 ((p : Int) + 1) = ((p + 1 : Nat) : Int) := by rw [wrap_id (by omega) (by omega)]; rfl
  rw [if_neg (by omega), if_pos (by omega), if_pos (by omega), h1, hw]
  by_cases q : a = 13
  ·rw [if_pos q]
   match hd2 : t with
   | [] =>
    have := Zav h3
    rw [if_pos (by omega)]; simp [Zb, q]
   | b :: u =>
    obtain ⟨g1, g2, g3⟩ := Zbn h3
    rw [if_neg (by omega), if_pos (by omega), if_pos (by omega), g1]
    by_cases q1 : b = 10
    ·rw [if_pos q1]; simp [Zb, q, q1]
    ·rw [if_neg q1]; simp [Zb, q, q1]
  ·rw [if_neg q]; simp [Zb, q]
def tw (r : List Int) : List Int := r.takeWhile fun c => decide (c ≠ 13)
def dw (r : List Int) : List Int := r.dropWhile fun c => decide (c ≠ 13)
theorem ZaB (r : List Int) : tw r ++ dw r = r := List.takeWhile_append_dropWhile
theorem Zdv {r : List Int} {a : Int} {u : List Int} (h : dw r = a :: u) : a = 13 := by
 have := List.head_dropWhile_not (p := fun c : Int => decide (c ≠ 13)) (l := r) (by unfold dw at h; rw [h]; simp)
 unfold dw at h
 simp only [h, List.head_cons] at this
 simpa using this
theorem Zdw : ∀ (r : List Int), (∀ x ∈ r, 0 ≤ x ∧ x < 256) → Lib.index (r.map fun n => UInt8.ofNat n.toNat) [13] = if dw r = [] then -1 else ((tw r).length : Int)
 | [], _ => rfl
 | c :: r, hr => by
  have hc := hr c (by simp)
  have ih := Zdw r (fun x hx => hr x (by simp [hx]))
  have e := ZaP hc.1 hc.2 13 (by omega)
  rw [List.map_cons, Lib.index]
  have c13 : (13 : UInt8) = UInt8.ofNat 13 := rfl
  simp only [List.isPrefixOf, Bool.and_true]
  rw [c13, e]
  by_cases q : c = ((13 : Nat) : Int)
  ·have q' : c = 13 := q
   rw [decide_eq_true q, if_pos rfl, q']
   simp [dw, tw]
  ·have q' : c ≠ 13 := q
   rw [decide_eq_false q, if_neg (by simp), ← c13, ih]
   have e1 : dw (c :: r) = dw r := by simp [dw, q']
   have e2 : tw (c :: r) = c :: tw r := by simp [tw, q']
   rw [e1, e2]
   by_cases q1 : dw r = []
   ·simp [q1]
   ·rw [if_neg q1, if_neg q1]
    rw [if_neg (by simp only [beq_iff_eq]; omega)]
    simp
theorem ZeV (r : List Int) (hr : ∀ x ∈ r, 0 ≤ x ∧ x < 256) (hl : r.length < 4294967281) : ∃ x, strings_Cut.f (strOfNums r) (⟨#[13]⟩ : BA) = some (strOfNums (tw r), x, decide (dw r ≠ [])) := by
 unfold strings_Cut.f
 rw [if_pos (by rw [strOfNums_size]; exact hl)]
 refine ⟨⟨(Lib.cut (strOfNums r).data.toList [13]).2.1.toArray⟩, ?_⟩
 congr 1
 have hi := Zdw r hr
 have hs : (strOfNums r).data.toList = r.map fun n => UInt8.ofNat n.toNat := by rw [strOfNums_data]
 have h13 : ((⟨#[13]⟩ : BA).data.toList) = [13] := rfl
 refine Prod.ext ?_ (Prod.ext rfl ?_)
 ·show (⟨(Lib.cut _ _).1.toArray⟩ : BA) = _
  apply ByteArray.ext
  rw [hs, h13]
  unfold Lib.cut
  rw [hi]
  by_cases q : dw r = []
  ·have ht : tw r = r := by have := ZaB r; rw [q, List.append_nil] at this; exact this
   rw [if_pos q, if_neg (by omega), ht]
   apply Array.toList_inj.mp
   rw [strOfNums_data]
  ·rw [if_neg q, if_pos (by omega)]
   apply Array.toList_inj.mp
   rw [strOfNums_data]
   simp only [Int.toNat_natCast]
   rw [← List.map_take]
   congr 1
   have := @List.take_left _ (tw r) (dw r)
   rw [ZaB] at this
   exact this
 ·show (Lib.cut _ _).2.2 = _
  rw [hs, h13]
  unfold Lib.cut
  rw [hi]
  by_cases q : dw r = []
  ·rw [if_pos q, if_neg (by omega)]; simp [q]
  ·rw [if_neg q, if_pos (by omega)]; simp [q]
def Za (r : List Int) : Int × List Int × Int :=
 if dw r = [] then ((phL 0 0 (tw r)).1, r, if tw r = [] ∨ (phL 0 0 (tw r)).2 = true then 1 else 400)
 else if (phL 0 0 (tw r)).2 = true then ((phL 0 0 (tw r)).1, (Zb (dw r)).2, (Zb (dw r)).1) else ((phL 0 0 (tw r)).1, r, 400)
theorem Zej {r : List Int} (hr : ∀ x ∈ r, 0 ≤ x ∧ x < 256) : ∀ x ∈ tw r, 0 ≤ x ∧ x < 256 := fun x hx => hr x (by rw [← ZaB r]; exact List.mem_append_left _ hx)
theorem ZcU {r : List Int} (hr : ∀ x ∈ r, 0 ≤ x ∧ x < 256) : ∀ x ∈ dw r, 0 ≤ x ∧ x < 256 := fun x hx => hr x (by rw [← ZaB r]; exact List.mem_append_right _ hx)
theorem Za5 (r : List Int) : (tw r).length + (dw r).length = r.length := by rw [← List.length_append, ZaB]
theorem ZcN (r : List Int) : r.drop (tw r).length = dw r := by
 have := @List.drop_left _ (tw r) (dw r)
 rw [ZaB] at this
 exact this
theorem Zdx (r : List Int) (hr : ∀ x ∈ r, 0 ≤ x ∧ x < 256) (hl : r.length ≤ 1048576) : Ev (fun k => impl_chunks_size.f k (strOfNums r) 0) ((Za r).1, strOfNums (Za r).2.1, (Za r).2.2) := by
 obtain ⟨x, hx⟩ := ZeV r hr (by omega)
 have htl := Za5 r
 unfold impl_chunks_size.f
 simp only [hx, Option.bind_some]
 have hp := ZbC (strOfNums (tw r)) (by rw [strOfNums_size]; omega)
 unfold Zat at hp
 rw [Zad _ (Zej hr)] at hp
 refine Ev.bind hp ?_
 have hts : (strOfNums (tw r)).size = (tw r).length := strOfNums_size _
 have hrs : (strOfNums r).size = r.length := strOfNums_size _
 by_cases q : dw r = []
 ·simp only [q, ne_eq, not_true_eq_false, decide_false, Bool.false_eq_true, if_false]
  apply ev_succ
  simp only [impl_chunks_size.j0, Bool.false_eq_true, if_false]
  unfold Za
  rw [if_pos q]
  refine ev_iteB (fun q1 => ?_) (fun q1 => ?_)
  ·have q1' : tw r = [] := by
    rw [← ZbS]; simpa using q1
   rw [if_pos (.inl q1')]; exact Ev.now _
  ·have q1' : tw r ≠ [] := by
    rw [ne_eq, ← ZbS]; simpa using q1
   refine ev_iteB (fun q2 => ?_) (fun q2 => ?_)
   ·rw [if_pos (.inr q2)]; exact Ev.now _
   ·rw [if_neg (by simp [q1', q2])]; exact Ev.now _
 ·simp only [ne_eq, q, not_false_eq_true, decide_true, if_true]
  apply ev_succ
  simp only [impl_chunks_size.j0, Bool.false_eq_true, if_false, if_true]
  unfold Za
  rw [if_neg q]
  refine ev_iteB (fun q2 => ?_) (fun q2 => ?_)
  ·simp only [hts, hrs, if_pos (show (0 : Int) ≤ ((tw r).length : Int) by omega), if_pos (show ((tw r).length : Int) ≤ (r.length : Int) by omega)]
   have e := Zbm r hr (tw r).length
   rw [hrs, ZcN] at e
   rw [e, if_pos q2]
   exact Ev.bind (ZcT (dw r) (ZcU hr)) (Ev.now _)
  ·rw [if_neg (by simp [q2])]; exact Ev.now _
theorem ZcV : ∀ (t : List Int) (i : Nat) (n : Int), i ≤ 4 → 5 ≤ i + t.length → (phL i n t).2 = false
 | [], i, n, h, h5 => by simp at h5; omega
 | c :: r, i, n, h, h5 => by
  unfold phL
  split
  ·rfl
  ·split
   ·rfl
   ·exact ZcV r (i + 1) _ (by omega) (by simp at h5; omega)
theorem Zcn : ∀ (t : List Int) (i : Nat) (n : Int), i ≤ 4 → 0 ≤ n → n < 16 ^ i → 0 ≤ (phL i n t).1 ∧ (phL i n t).1 < 65536
 | [], i, n, h, h0, h1 => by have := ZcL h; simp only [phL]; omega
 | c :: r, i, n, h, h0, h1 => by
  have hd := ZaO c
  have := ZcL h
  unfold phL
  split
  ·simp
  ·split
   ·simp
   ·rename_i q q4
    exact Zcn r (i + 1) _ (by omega) (by omega) (by rw [Int.pow_succ]; omega)
theorem ZcW (l : List Int) (hl : l.length ≤ 1048576) (hr : ∀ x ∈ l, 0 ≤ x ∧ x < 256) (p m : Nat) (hm : m ≤ 5) (X : Int × Int × Int) (hpm : p + m ≤ l.length)
  (h0 : l.drop (p + m + 1) = [] → X = (0, 0, 1)) (h1 : ∀ b u, l.drop (p + m + 1) = b :: u → b ≠ 10 → X = (0, 0, 400)) (h2 : ∀ u, l.drop (p + m + 1) = 10 :: u → X = ((phL 0 0 ((l.take (p + m)).drop p)).1, ((p + m + 2 : Nat) : Int), 0)) :
  Ev (fun k => spec_l4Size.j3 k l (p : Int) ((p + m : Nat) : Int)) X := by
 have hw : wrap64 (((p + m : Nat) : Int) + 1) = ((p + m + 1 : Nat) : Int) := by rw [wrap_id (by omega) (by omega)]; rfl
 have hw2 : wrap64 (((p + m : Nat) : Int) + 2) = ((p + m + 2 : Nat) : Int) := by rw [wrap_id (by omega) (by omega)]; rfl
 apply ev_succ
 simp only [spec_l4Size.j3, hw, hw2]
 match hd : l.drop (p + m + 1) with
 | [] =>
  have := Zav hd
  rw [h0 hd]
  refine ev_ite (fun _ => Ev.now _) (fun q => absurd q (by omega))
 | b :: u =>
  obtain ⟨g1, g2, g3⟩ := Zbn hd
  simp only [if_neg (show ¬ ((p + m + 1 : Nat) : Int) ≥ (l.length : Int) by omega), if_pos (show (0 : Int) ≤ ((p + m + 1 : Nat) : Int) by omega), if_pos (show ((p + m + 1 : Nat) : Int) < (l.length : Int) by omega), g1]
  refine ev_ite (fun q => ?_) (fun q => ?_)
  ·subst q
   rw [h2 u hd]
   simp only [if_pos (show (0 : Int) ≤ (p : Int) by omega), if_pos (show (p : Int) ≤ ((p + m : Nat) : Int) by omega), if_pos (show ((p + m : Nat) : Int) ≤ (l.length : Int) by omega), Int.toNat_natCast]
   have hp := Zau (strOfNums ((l.take (p + m)).drop p)) (by rw [strOfNums_size]; simp; omega)
   unfold Zat at hp
   rw [Zad _ (fun x hx => hr x (List.mem_of_mem_take (List.mem_of_mem_drop hx)))] at hp
   exact Ev.bind hp (Ev.now _)
  ·rw [h1 b u hd q]; exact Ev.now _
def ZE (p : Nat) (r : List Int) : Int × Int × Int := if (Za r).2.2 = 0 then ((Za r).1, ((p + (tw r).length + 2 : Nat) : Int), 0) else (0, 0, (Za r).2.2)
theorem ZeA (r : List Int) : r.take (tw r).length = tw r := by
 have := @List.take_left _ (tw r) (dw r)
 rw [ZaB] at this
 exact this
theorem ZcX (l : List Int) (hl : l.length ≤ 1048576) (hr : ∀ x ∈ l, 0 ≤ x ∧ x < 256) (p m : Nat) (hm : m = min 5 (tw (l.drop p)).length) (hp : p ≤ l.length) :
  Ev (fun k => spec_l4Size.j1 k l (p : Int) ((p + m : Nat) : Int)) (ZE p (l.drop p)) := by
 have hw5 : wrap64 ((p : Int) + 5) = ((p + 5 : Nat) : Int) := by rw [wrap_id (by omega) (by omega)]; rfl
 have htl := Za5 (l.drop p)
 rw [List.length_drop] at htl
 have hrr : ∀ x ∈ l.drop p, 0 ≤ x ∧ x < 256 := fun x hx => hr x (List.mem_of_mem_drop hx)
 apply ev_succ
 simp only [spec_l4Size.j1, hw5]
 refine ev_ite (fun q => ?_) (fun q => ?_)
 ·have hlong := ZcV (tw (l.drop p)) 0 0 (by omega) (by omega)
  have hne : tw (l.drop p) ≠ [] := by intro e; rw [e] at hm; simp at hm; omega
  have : ZE p (l.drop p) = (0, 0, 400) := by
   unfold ZE Za
   by_cases qd : dw (l.drop p) = []
   ·rw [if_pos qd]; simp [hlong, hne]
   ·rw [if_neg qd]; simp [hlong]
  rw [this]; exact Ev.now _
 ·have hm' : m = (tw (l.drop p)).length := by omega
  have e1 : (l.take (p + m)).drop p = tw (l.drop p) := by
   rw [List.drop_take, show p + m - p = m by omega, hm', ZeA]
  have e2 : l.drop (p + m) = dw (l.drop p) := by
   rw [← List.drop_drop, hm', ZcN]
  have hph := Zau (strOfNums ((l.take (p + m)).drop p)) (by rw [strOfNums_size, e1]; omega)
  unfold Zat at hph
  rw [Zad _ (fun x hx => hr x (List.mem_of_mem_take (List.mem_of_mem_drop hx))), e1] at hph
  have e3 : l.drop (p + m + 1) = (dw (l.drop p)).drop 1 := by rw [← e2, List.drop_drop]
  have j3 := ZcW l hl hr p m (by omega)
  rw [e1, e3] at j3
  have j2 : ∀ X, ((phL 0 0 (tw (l.drop p))).2 = true → Ev (fun k => spec_l4Size.j3 k l (p : Int) ((p + m : Nat) : Int)) X) → ((phL 0 0 (tw (l.drop p))).2 = false → X = (0, 0, 400)) → Ev (fun k => spec_l4Size.j2 k l (p : Int) ((p + m : Nat) : Int) true) X := by
   intro X hy hn
   apply ev_succ
   simp only [spec_l4Size.j2, if_true, if_pos (show (0 : Int) ≤ (p : Int) by omega), if_pos (show (p : Int) ≤ ((p + m : Nat) : Int) by omega), if_pos (show ((p + m : Nat) : Int) ≤ (l.length : Int) by omega), Int.toNat_natCast, e1]
   exact Ev.bind hph (ev_iteB hy (fun h => by rw [hn h]; exact Ev.now _))
  by_cases qd : dw (l.drop p) = []
  ·have hend : p + m = l.length := by rw [qd] at htl; simp at htl; omega
   simp only [if_neg (show ¬ ((p + m : Nat) : Int) < (l.length : Int) by omega)]
   rw [qd] at j3
   have hX : ∀ X, X = (0, 0, 1) → Ev (fun k => spec_l4Size.j3 k l (p : Int) ((p + m : Nat) : Int)) X := fun X hX => j3 X (by omega) (fun _ => hX) (fun b u h => by simp at h) (fun u h => by simp at h)
   by_cases q0 : tw (l.drop p) = []
   ·have hm0 : m = 0 := by rw [hm', q0]; rfl
    simp only [decide_eq_false (show ¬ ((p + m : Nat) : Int) > (p : Int) by omega)]
    apply ev_succ
    simp only [spec_l4Size.j2, Bool.false_eq_true, if_false]
    exact hX _ (by unfold ZE Za; rw [if_pos qd]; simp [q0])
   ·have hm0 : 0 < m := by rw [hm']; exact List.length_pos_iff.2 q0
    simp only [decide_eq_true (show ((p + m : Nat) : Int) > (p : Int) by omega)]
    refine j2 _ (fun h => hX _ ?_) (fun h => ?_)
    ·unfold ZE Za; rw [if_pos qd]; simp [h]
    ·unfold ZE Za; rw [if_pos qd]; simp [h, q0]
  ·match hdw : dw (l.drop p), qd with
   | a :: u, _ =>
    have ha := Zdv hdw
    subst ha
    rw [hdw] at htl j3
    simp at htl
    simp only [if_pos (show ((p + m : Nat) : Int) < (l.length : Int) by omega)]
    have hne : dw (l.drop p) ≠ [] := by rw [hdw]; simp
    refine j2 _ (fun h => ?_) (fun h => ?_)
    ·refine j3 _ (by omega) (fun hu => ?_) (fun b v hu q1 => ?_) (fun v hu => ?_)
     ·simp at hu
      unfold ZE Za; rw [if_neg hne, if_pos h, hdw, hu]; simp [Zb]
     ·simp at hu
      unfold ZE Za; rw [if_neg hne, if_pos h, hdw, hu]; simp [Zb, q1]
     ·simp at hu
      unfold ZE Za; rw [if_neg hne, if_pos h, hdw, hu, hm']; simp [Zb]
    ·unfold ZE Za; rw [if_neg hne]; simp [h]
theorem ZeW {r : List Int} {a : Int} (h : a ∈ tw r) : a ≠ 13 := by
 have h1 := List.all_eq_true.1 (List.all_takeWhile (p := fun c : Int => decide (c ≠ 13)) (l := r)) a h
 simpa using h1
theorem Za6 (l : List Int) (p j : Nat) (X : Int × Int × Int) (hl : l.length ≤ 1048576) (hp : p ≤ l.length) (hj5 : j ≤ 5)
  (h0 : l.drop (p + j) = [] → Ev (fun k => spec_l4Size.j1 k l (p : Int) ((p + j : Nat) : Int)) X) (h1 : ∀ u, l.drop (p + j) = 13 :: u → Ev (fun k => spec_l4Size.j1 k l (p : Int) ((p + j : Nat) : Int)) X) (h5 : j = 5 → Ev (fun k => spec_l4Size.j1 k l (p : Int) ((p + j : Nat) : Int)) X)
  (h2 : ∀ a u, l.drop (p + j) = a :: u → a ≠ 13 → j < 5 → Ev (fun k => spec_l4Size.l0 k l (p : Int) ((p + (j + 1) : Nat) : Int)) X) :
  Ev (fun k => spec_l4Size.l0 k l (p : Int) ((p + j : Nat) : Int)) X := by
 have hw5 : wrap64 ((p : Int) + 5) = ((p + 5 : Nat) : Int) := by rw [wrap_id (by omega) (by omega)]; rfl
 apply ev_succ
 simp only [spec_l4Size.l0, hw5]
 refine ev_ite (fun q1 => ev_ite (fun q2 => ?_) (fun q2 => h5 (by omega))) (fun q1 => h0 (List.drop_eq_nil_iff.2 (by omega)))
 have q3 : j < 5 := by omega
 have q4 : (0 : Int) ≤ ((p + j : Nat) : Int) := by omega
 have hw1 : wrap64 (((p + j : Nat) : Int) + 1) = ((p + (j + 1) : Nat) : Int) := by rw [wrap_id (by omega) (by omega)]; omega
 have q5 : ¬ l.length ≤ p + j := by omega
 simp only [if_pos q4, hw1]
 match hd : l.drop (p + j) with
 | [] => exact absurd (Zav hd) q5
 | a :: u =>
  have g1 := (Zbn hd).1
  simp only [g1]
  refine ev_ite (fun q => ?_) (fun q => h2 a u hd q q3)
  exact h1 u (by rw [hd, q])
theorem ZcY (l : List Int) (hl : l.length ≤ 1048576) (hr : ∀ x ∈ l, 0 ≤ x ∧ x < 256) (p : Nat) (hp : p ≤ l.length) :
  Ev (fun k => spec_l4Size.f k l (p : Int)) (ZE p (l.drop p)) := by
 obtain ⟨m, hm⟩ : ∃ m, m = min 5 (tw (l.drop p)).length := ⟨_, rfl⟩
 have hj1 := ZcX l hl hr p m hm hp
 have h5 : m ≤ 5 := by omega
 have key : ∀ n j, j + n = m → Ev (fun k => spec_l4Size.l0 k l (p : Int) ((p + j : Nat) : Int)) (ZE p (l.drop p)) := by
  intro n
  induction n with
  | zero =>
   intro j hj
   obtain rfl : j = m := by omega
   refine Za6 l p j _ hl hp h5 (fun _ => hj1) (fun _ _ => hj1) (fun _ => hj1) (fun a u h q q5 => ?_)
   have e2 : l.drop (p + j) = dw (l.drop p) := by
    rw [← List.drop_drop, show j = (tw (l.drop p)).length by omega, ZcN]
   rw [e2] at h
   exact absurd (Zdv h) q
  | succ n ih =>
   intro j hj
   have hjt : j < (tw (l.drop p)).length := by omega
   have e2 : l.drop (p + j) = (tw (l.drop p)).drop j ++ dw (l.drop p) := by
    have e := @List.drop_append_of_le_length _ (tw (l.drop p)) (dw (l.drop p)) j (by omega)
    rw [ZaB, List.drop_drop] at e
    exact e
   have hj6 : j + 1 + n = m := by omega
   have hj5 : j ≤ 5 := by omega
   have hj7 : j ≠ 5 := by omega
   match hd : (tw (l.drop p)).drop j with
   | [] => exact absurd (Zav hd) (by omega)
   | a :: u =>
    have ha := ZeW (List.mem_of_mem_drop (by rw [hd]; simp : a ∈ (tw (l.drop p)).drop j))
    rw [hd] at e2
    refine Za6 l p j _ hl hp hj5 (fun h => ?_) (fun v h => ?_) (fun h => absurd h hj7) (fun _ _ _ _ _ => ih (j + 1) hj6)
    ·rw [e2] at h; simp at h
    ·rw [e2] at h; simp only [List.cons_append, List.cons.injEq] at h; exact absurd h.1 ha
 exact key m 0 (by omega)
theorem Zw (l : List Int) (x : BA) (n : Int) (s : BA) (c : Int) (hc : c ≠ 0) : Ev (fun k => impl_GetChunks.j1 k l x n s c) ((⟨#[]⟩ : BA), 0, c) := by
 apply ev_succ
 simp only [impl_GetChunks.j1, if_neg hc]
 exact Ev.now _
theorem ZbT (t : List Int) : 0 ≤ (phL 0 0 t).1 ∧ (phL 0 0 t).1 < 65536 := Zcn t 0 0 (by omega) (by omega) (by simp)
theorem Zdy (r : List Int) : (Za r).1 = (phL 0 0 (tw r)).1 := by
 unfold Za
 split
 ·rfl
 ·split <;> rfl
theorem Z8 {r : List Int} (h : (Za r).2.2 = 0) : dw r = 13 :: 10 :: (Za r).2.1 := by
 unfold Za at h ⊢
 by_cases q : dw r = []
 ·rw [if_pos q] at h
  simp only at h
  split at h <;> omega
 ·rw [if_neg q] at h ⊢
  by_cases q1 : (phL 0 0 (tw r)).2 = true
  ·rw [if_pos q1] at h ⊢
   exact ZaA h
  ·rw [if_neg q1] at h
   simp at h
theorem ZdJ (l : List Int) (hl : l.length ≤ 1048576) (hr : ∀ x ∈ l, 0 ≤ x ∧ x < 256) (q n : Nat) (hql : q ≤ l.length) (hn' : n < 65536) (x : BA) (hx : x.size ≤ 200)
  (next : ∀ (y : BA), q + n + 2 ≤ l.length → y.size ≤ 200 → ∃ X, Ev (fun k => impl_GetChunks.l0 k l y (strOfNums (l.drop (q + n + 2))) 0) X ∧ Ev (fun k => spec_GetChunks.l0 k l ((q + n + 2 : Nat) : Int) y) X) :
  ∃ X, Ev (fun k => if ((x.size + n : Nat) : Int) > 200 then (impl_GetChunks.j1 k l x (n : Int) (strOfNums (l.drop q)) 413) else (if (n : Int) > ((l.length - q : Nat) : Int) then (impl_GetChunks.j1 k l x (n : Int) (strOfNums (l.drop q)) 1) else (if (0 : Int) ≤ (n : Int) then (if (n : Int) ≤ ((l.length - q : Nat) : Int) then (if x.size + ((strOfNums (l.drop q)).extract 0 n).size ≤ 9223372036854775807 then ((impl_chunks_end.f k ((strOfNums (l.drop q)).extract n (l.length - q)) 0).bind fun bt143 => (impl_GetChunks.j1 k l (x ++ ((strOfNums (l.drop q)).extract 0 n)) (n : Int) bt143.1 bt143.2)) else (none)) else (none)) else (none)))) X ∧
   Ev (fun k => if ((x.size + n : Nat) : Int) > 200 then (some ((⟨#[]⟩ : BA), 0, 413)) else (if (n : Int) > ((l.length - q : Nat) : Int) then (some ((⟨#[]⟩ : BA), 0, 1)) else (if (0 : Int) ≤ (q : Int) then (if (q : Int) ≤ ((q + n : Nat) : Int) then (if ((q + n : Nat) : Int) ≤ (l.length : Int) then (if x.size + (strOfNums ((l.take (q + n)).drop q)).size ≤ 9223372036854775807 then ((spec_l4End.f l ((q + n : Nat) : Int)).bind fun t122 => (if t122 = 0 then (if (n : Int) = 0 then (some (x ++ (strOfNums ((l.take (q + n)).drop q)), ((q + n + 2 : Nat) : Int), 0)) else (spec_GetChunks.l0 k l ((q + n + 2 : Nat) : Int) (x ++ (strOfNums ((l.take (q + n)).drop q))))) else (some ((⟨#[]⟩ : BA), 0, t122)))) else (none)) else (none)) else (none)) else (none)))) X := by
 by_cases q1 : x.size + n > 200
 ·have b1 : ((x.size + n : Nat) : Int) > 200 := by omega
  refine ⟨((⟨#[]⟩ : BA), 0, 413), ?_, ?_⟩
  ·simp only [if_pos b1]; exact Zw _ _ _ _ _ (by decide)
  ·simp only [if_pos b1]; exact Ev.now _
 have b1 : ¬ ((x.size + n : Nat) : Int) > 200 := by omega
 by_cases q2 : n > l.length - q
 ·have b2 : (n : Int) > ((l.length - q : Nat) : Int) := by omega
  refine ⟨((⟨#[]⟩ : BA), 0, 1), ?_, ?_⟩
  ·simp only [if_neg b1, if_pos b2]; exact Zw _ _ _ _ _ (by decide)
  ·simp only [if_neg b1, if_pos b2]; exact Ev.now _
 have b2 : ¬ (n : Int) > ((l.length - q : Nat) : Int) := by omega
 have b3 : (0 : Int) ≤ (n : Int) := by omega
 have b4 : (n : Int) ≤ ((l.length - q : Nat) : Int) := by omega
 have b5 : x.size + n ≤ 9223372036854775807 := by omega
 have b6 : (0 : Int) ≤ (q : Int) := by omega
 have b7 : (q : Int) ≤ ((q + n : Nat) : Int) := by omega
 have b8 : ((q + n : Nat) : Int) ≤ (l.length : Int) := by omega
 have b9 : x.size + n ≤ 200 := by omega
 have b10 : q + n - q = n := by omega
 have b11 : l.length ≤ 9223372036854775000 := by omega
 have b12 : min n (l.length - q) = n := by omega
 have b13 : ∀ m : Nat, m ≤ l.length → wrap64 ((l.length : Int) - ((l.length - m : Nat) : Int)) = (m : Int) := by
  intro m hm
  rw [wrap_id (by omega) (by omega)]; omega
 have hlen : (l.drop q).length = l.length - q := List.length_drop
 have hqr : ∀ z ∈ l.drop q, 0 ≤ z ∧ z < 256 := fun z hz => hr z (List.mem_of_mem_drop hz)
 have e1 : (strOfNums (l.drop q)).extract 0 n = strOfNums ((l.drop q).take n) := by rw [ZcQ _ hqr]; rfl
 have e2 : (strOfNums (l.drop q)).extract n (l.length - q) = strOfNums (l.drop (q + n)) := by
  have := Zbm _ hqr n
  rw [strOfNums_size, hlen, List.drop_drop] at this
  exact this
 have e3 : (l.take (q + n)).drop q = (l.drop q).take n := by rw [List.drop_take, b10]
 have hsz1 : (strOfNums ((l.drop q).take n)).size = n := by rw [strOfNums_size, List.length_take, hlen, b12]
 have hend := ZcT (l.drop (q + n)) (fun z hz => hr z (List.mem_of_mem_drop hz))
 have hsend := Zei l (q + n) b11
 simp only [if_neg b1, if_neg b2, if_pos b3, if_pos b4, if_pos b6, if_pos b7, if_pos b8, e1, e2, e3, hsz1, if_pos b5, hsend, Option.bind_some]
 by_cases hc2 : (Zb (l.drop (q + n))).1 = 0
 ·have hz := ZaA hc2
  have hz2 : l.drop (q + n + 2) = (Zb (l.drop (q + n))).2 := by rw [← List.drop_drop, hz]; rfl
  have hz3 : q + n + 2 ≤ l.length := by
   have h1 := congrArg List.length hz
   rw [List.length_drop, List.length_cons, List.length_cons] at h1
   revert h1
   generalize (Zb (l.drop (q + n))).2.length = z
   clear hz hz2 hc2 hend hsend
   intro h1
   omega
  rw [← hz2, hc2] at hend
  simp only [hc2, if_true]
  rcases Nat.eq_zero_or_pos n with hn0 | hn0
  ·subst hn0
   refine ⟨(x ++ strOfNums ((l.drop q).take 0), ((q + 0 + 2 : Nat) : Int), 0), Ev.bind hend ?_, ?_⟩
   ·apply ev_succ
    simp only [impl_GetChunks.j1, if_true, strOfNums_size, List.length_drop]
    rw [b13 _ hz3]
    exact Ev.now _
   ·exact Ev.now _
  ·have b14 : ¬ (n : Int) = 0 := by
    clear hz hz2 hc2 hend hsend
    omega
   obtain ⟨X, hI, hS⟩ := next (x ++ strOfNums ((l.drop q).take n)) hz3 (by rw [ByteArray.size_append, hsz1]; exact b9)
   refine ⟨X, Ev.bind hend ?_, ?_⟩
   ·apply ev_succ
    simp only [impl_GetChunks.j1, if_true, if_neg b14]
    exact hI
   ·simp only [if_neg b14]; exact hS
 ·simp only [if_neg hc2]
  exact ⟨((⟨#[]⟩ : BA), 0, (Zb (l.drop (q + n))).1), Ev.bind hend (Zw _ _ _ _ _ hc2), Ev.now _⟩
theorem ZbU (l : List Int) (hl : l.length ≤ 1048576) (hr : ∀ x ∈ l, 0 ≤ x ∧ x < 256) (p : Nat) (hp : p ≤ l.length) (x : BA) (hx : x.size ≤ 200)
  (next : ∀ (q : Nat) (y : BA), p < q → q ≤ l.length → y.size ≤ 200 → ∃ X, Ev (fun k => impl_GetChunks.l0 k l y (strOfNums (l.drop q)) 0) X ∧ Ev (fun k => spec_GetChunks.l0 k l (q : Int) y) X) :
  ∃ X, Ev (fun k => impl_GetChunks.l0 k l x (strOfNums (l.drop p)) 0) X ∧ Ev (fun k => spec_GetChunks.l0 k l (p : Int) x) X := by
 have hrr : ∀ z ∈ l.drop p, 0 ≤ z ∧ z < 256 := fun z hz => hr z (List.mem_of_mem_drop hz)
 have hsz := Zdx (l.drop p) hrr (by rw [List.length_drop]; omega)
 have hsp := ZcY l hl hr p hp
 have hx' : (x.size : Int) ≤ 200 := by omega
 by_cases hc : (Za (l.drop p)).2.2 = 0
 ·have hgood := Z8 hc
  have hn := ZbT (tw (l.drop p))
  rw [← Zdy] at hn
  have hsX : ZE p (l.drop p) = ((Za (l.drop p)).1, ((p + (tw (l.drop p)).length + 2 : Nat) : Int), 0) := by unfold ZE; rw [if_pos hc]
  rw [hsX] at hsp
  have htl := Za5 (l.drop p)
  rw [hgood, List.length_drop] at htl
  simp only [List.length_cons] at htl
  obtain ⟨q, hq⟩ : ∃ q, q = p + (tw (l.drop p)).length + 2 := ⟨_, rfl⟩
  rw [← hq] at hsp
  have hrest : l.drop q = (Za (l.drop p)).2.1 := by
   have e : l.drop (p + (tw (l.drop p)).length) = 13 :: 10 :: (Za (l.drop p)).2.1 := by rw [← List.drop_drop, ZcN, hgood]
   rw [hq, show p + (tw (l.drop p)).length + 2 = (p + (tw (l.drop p)).length) + 2 from rfl, ← List.drop_drop, e]; rfl
  obtain ⟨n, hnn⟩ : ∃ n : Nat, (Za (l.drop p)).1 = (n : Int) := ⟨(Za (l.drop p)).1.toNat, by omega⟩
  rw [hc, ← hrest, hnn] at hsz
  rw [hnn] at hsp
  have hn' : n < 65536 := by omega
  have hql : q ≤ l.length := by omega
  have hpq : p < q := by omega
  have hlen : (l.drop q).length = l.length - q := List.length_drop
  have hss : (strOfNums (l.drop q)).size = l.length - q := by rw [strOfNums_size, hlen]
  have hqr : ∀ z ∈ l.drop q, 0 ≤ z ∧ z < 256 := fun z hz => hr z (List.mem_of_mem_drop hz)
  clear hrest hgood hsX htl hq hn hnn hrr hc hlen
  have hw : wrap64 ((x.size : Int) + (n : Int)) = ((x.size + n : Nat) : Int) := by rw [wrap_id (by omega) (by omega)]; omega
  have hwl : wrap64 ((l.length : Int) - (q : Int)) = ((l.length - q : Nat) : Int) := by rw [wrap_id (by omega) (by omega)]; omega
  have hwq : wrap64 ((q : Int) + (n : Int)) = ((q + n : Nat) : Int) := by rw [wrap_id (by omega) (by omega)]; omega
  have hwq2 : wrap64 (((q + n : Nat) : Int) + 2) = ((q + n + 2 : Nat) : Int) := by rw [wrap_id (by omega) (by omega)]; rfl
  have goI : ∀ X, Ev (fun k => if (wrap64 ((x.size : Int) + (n : Int))) > 200 then (impl_GetChunks.j1 k l x (n : Int) (strOfNums (l.drop q)) 413) else (if (n : Int) > ((strOfNums (l.drop q)).size : Int) then (impl_GetChunks.j1 k l x (n : Int) (strOfNums (l.drop q)) 1) else (if (0 : Int) ≤ (n : Int) then (if (n : Int) ≤ ((strOfNums (l.drop q)).size : Int) then (if x.size + ((strOfNums (l.drop q)).extract 0 (n : Int).toNat).size ≤ 9223372036854775807 then ((impl_chunks_end.f k ((strOfNums (l.drop q)).extract (n : Int).toNat (strOfNums (l.drop q)).size) 0).bind fun bt143 => (impl_GetChunks.j1 k l (x ++ ((strOfNums (l.drop q)).extract 0 (n : Int).toNat)) (n : Int) bt143.1 bt143.2)) else (none)) else (none)) else (none)))) X → Ev (fun k => impl_GetChunks.l0 k l x (strOfNums (l.drop p)) 0) X := by
   intro X h
   apply ev_succ
   simp only [impl_GetChunks.l0]
   refine Ev.bind hsz ?_
   simp only [if_true]
   exact h
  have goS : ∀ X, Ev (fun k => if (wrap64 ((x.size : Int) + (n : Int))) > 200 then (some ((⟨#[]⟩ : BA), 0, 413)) else (if (n : Int) > (wrap64 ((l.length : Int) - (q : Int))) then (some ((⟨#[]⟩ : BA), 0, 1)) else (if (0 : Int) ≤ (q : Int) then (if (q : Int) ≤ (wrap64 ((q : Int) + (n : Int))) then (if (wrap64 ((q : Int) + (n : Int))) ≤ (l.length : Int) then (if x.size + (strOfNums ((l.take ((wrap64 ((q : Int) + (n : Int))) : Int).toNat).drop (q : Int).toNat)).size ≤ 9223372036854775807 then ((spec_l4End.f l (wrap64 ((q : Int) + (n : Int)))).bind fun t122 => (if t122 = 0 then (if (n : Int) = 0 then (some (x ++ (strOfNums ((l.take ((wrap64 ((q : Int) + (n : Int))) : Int).toNat).drop (q : Int).toNat)), wrap64 ((wrap64 ((q : Int) + (n : Int))) + 2), 0)) else (spec_GetChunks.l0 k l (wrap64 ((wrap64 ((q : Int) + (n : Int))) + 2)) (x ++ (strOfNums ((l.take ((wrap64 ((q : Int) + (n : Int))) : Int).toNat).drop (q : Int).toNat))))) else (some ((⟨#[]⟩ : BA), 0, t122)))) else (none)) else (none)) else (none)) else (none)))) X → Ev (fun k => spec_GetChunks.l0 k l (p : Int) x) X := by
   intro X h
   apply ev_succ
   simp only [spec_GetChunks.l0, if_pos hx']
   refine Ev.bind hsp ?_
   simp only [if_true]
   exact h
  simp only [hw, hwl, hwq, hwq2, hss, Int.toNat_natCast] at goI goS
  clear hw hwl hwq hwq2 hss
  have b : p < q + n + 2 := Nat.lt_of_lt_of_le hpq (by rw [Nat.add_assoc]; exact Nat.le_add_right _ _)
  obtain ⟨X, hI, hS⟩ := ZdJ l hl hr q n hql hn' x hx (fun y h1 h2 => next _ y b h1 h2)
  exact ⟨X, goI X hI, goS X hS⟩
 ·refine ⟨((⟨#[]⟩ : BA), 0, (Za (l.drop p)).2.2), ?_, ?_⟩
  ·apply ev_succ
   simp only [impl_GetChunks.l0]
   refine Ev.bind hsz ?_
   simp only [if_neg hc]
   exact Zw _ _ _ _ _ hc
  ·have hsX : ZE p (l.drop p) = (0, 0, (Za (l.drop p)).2.2) := by unfold ZE; rw [if_neg hc]
   rw [hsX] at hsp
   apply ev_succ
   simp only [spec_GetChunks.l0, if_pos hx']
   refine Ev.bind hsp ?_
   simp only [if_neg hc]
   exact Ev.now _
theorem Zco (l : List Int) (hl : l.length ≤ 1048576) (hr : ∀ x ∈ l, 0 ≤ x ∧ x < 256) : ∀ (n p : Nat) (x : BA), p ≤ l.length → l.length - p ≤ n → x.size ≤ 200 →
  ∃ X, Ev (fun k => impl_GetChunks.l0 k l x (strOfNums (l.drop p)) 0) X ∧ Ev (fun k => spec_GetChunks.l0 k l (p : Int) x) X
 | 0, p, x, hp, hn, hx => ZbU l hl hr p hp x hx (fun q y h1 h2 _ => by omega)
 | n + 1, p, x, hp, hn, hx => ZbU l hl hr p hp x hx (fun q y h1 h2 h3 => Zco l hl hr n q y h2 (by omega) h3)
theorem ZcZ (l : List Int) (hl : l.length ≤ 1048576) (hr : ∀ x ∈ l, 0 ≤ x ∧ x < 256) (p : Int) : ∃ X, Ev (fun k => impl_GetChunks.f k l p) X ∧ Ev (fun k => spec_GetChunks.f k l p) X := by
 unfold impl_GetChunks.f spec_GetChunks.f
 simp only [Zx, ZcM, Option.bind_some]
 by_cases q : 0 ≤ p ∧ p ≤ (l.length : Int)
 ·obtain ⟨X, h1, h2⟩ := Zco l hl hr l.length p.toNat (⟨#[]⟩ : BA) (by omega) (by omega) (by decide)
  rw [Int.toNat_of_nonneg q.1] at h2
  simp only [decide_eq_true q.1, decide_eq_true q.2, Bool.and_self, if_true, if_pos q.1, if_pos q.2]
  exact ⟨X, h1, h2⟩
 ·have : (decide (0 ≤ p) && decide (p ≤ (l.length : Int))) = false := by
   rw [Bool.and_eq_false_iff]
   rcases Classical.not_and_iff_not_or_not.1 q with h | h
   ·exact .inl (decide_eq_false h)
   ·exact .inr (decide_eq_false h)
  simp only [this, Bool.false_eq_true, if_false]
  exact ⟨_, Ev.now _, Ev.now _⟩
def chR : Nat → List Int → List Int → List Int × List Int × Int
 | 0, _, _ => ([], [], 1)
 | n + 1, r, x =>
  if (Za r).2.2 ≠ 0 then ([], [], (Za r).2.2)
  else if 200 < x.length + (Za r).1.toNat then ([], [], 413)
  else if (Za r).2.1.length < (Za r).1.toNat then ([], [], 1)
  else if (Zb ((Za r).2.1.drop (Za r).1.toNat)).1 ≠ 0 then ([], [], (Zb ((Za r).2.1.drop (Za r).1.toNat)).1)
  else if (Za r).1.toNat = 0 then (x, (Zb ((Za r).2.1.drop (Za r).1.toNat)).2, 0)
  else chR n (Zb ((Za r).2.1.drop (Za r).1.toNat)).2 (x ++ (Za r).2.1.take (Za r).1.toNat)
theorem Zc0 (r y : List Int) : ((Zb r).1 = 0 → Zb (r ++ y) = (0, (Zb r).2 ++ y)) ∧ ((Zb r).1 = 400 → (Zb (r ++ y)).1 = 400) ∧ ((Zb r).1 = 0 ∨ (Zb r).1 = 1 ∨ (Zb r).1 = 400) := by
 match r with
 | [] => exact ⟨fun h => by simp [Zb] at h, fun h => by simp [Zb] at h, .inr (.inl rfl)⟩
 | [a] =>
  by_cases q : a = 13
  ·exact ⟨fun h => by simp [Zb, q] at h, fun h => by simp [Zb, q] at h, .inr (.inl (by simp [Zb, q]))⟩
  ·exact ⟨fun h => by simp [Zb, q] at h, fun _ => by simp [Zb, q], .inr (.inr (by simp [Zb, q]))⟩
 | a :: b :: u =>
  by_cases q : a = 13
  ·by_cases q1 : b = 10
   ·exact ⟨fun _ => by simp [Zb, q, q1], fun h => by simp [Zb, q, q1] at h, .inl (by simp [Zb, q, q1])⟩
   ·exact ⟨fun h => by simp [Zb, q, q1] at h, fun _ => by simp [Zb, q, q1], .inr (.inr (by simp [Zb, q, q1]))⟩
  ·exact ⟨fun h => by simp [Zb, q] at h, fun _ => by simp [Zb, q], .inr (.inr (by simp [Zb, q]))⟩
theorem Zcp {r : List Int} (h : (Zb r).1 = 1) : r.length ≤ 1 := by
 match r, h with
 | [], _ => simp
 | [a], _ => simp
 | a :: b :: u, h =>
  by_cases q : a = 13
  ·by_cases q1 : b = 10 <;> simp [Zb, q, q1] at h
  ·simp [Zb, q] at h
theorem Zae {r : List Int} (h : (Zb r).1 = 0) : r.length = (Zb r).2.length + 2 := by
 have := congrArg List.length (ZaA h)
 simpa using this
theorem Zdz : ∀ (t y : List Int) (i : Nat) (n : Int), t ≠ [] → (phL i n t).2 = false → (phL i n (t ++ y)).2 = false
 | [], _, _, _, h, _ => absurd rfl h
 | c :: t, y, i, n, _, h => by
  rw [List.cons_append, phL]
  rw [phL] at h
  by_cases q : Zz c < 0
  ·rw [if_pos q]
  rw [if_neg q] at h ⊢
  by_cases q1 : i ≥ 4
  ·rw [if_pos q1]
  rw [if_neg q1] at h ⊢
  cases t with
  | nil => simp [phL] at h
  | cons d u => exact Zdz (d :: u) y (i + 1) _ (by simp) h
theorem Zd0 (r y : List Int) : (dw r = [] → tw (r ++ y) = tw r ++ tw y ∧ tw r = r ∧ dw (r ++ y) = dw y) ∧ (dw r ≠ [] → tw (r ++ y) = tw r ∧ dw (r ++ y) = dw r ++ y) := by
 induction r with
 | nil => simp [tw, dw]
 | cons c r ih =>
  by_cases q : c = 13
  ·simp [tw, dw, q]
  ·have e1 : ∀ z : List Int, tw (c :: z) = c :: tw z := fun z => by simp [tw, q]
   have e2 : ∀ z : List Int, dw (c :: z) = dw z := fun z => by simp [dw, q]
   simp only [List.cons_append, e1, e2]
   refine ⟨fun h => ?_, fun h => ?_⟩
   ·obtain ⟨h1, h2, h3⟩ := ih.1 h
    exact ⟨by rw [h1], by rw [h2], h3⟩
   ·obtain ⟨h1, h2⟩ := ih.2 h
    exact ⟨by rw [h1], h2⟩
theorem Zd1 (r y : List Int) : ((Za r).2.2 = 0 → Za (r ++ y) = ((Za r).1, (Za r).2.1 ++ y, 0)) ∧ ((Za r).2.2 = 400 → (Za (r ++ y)).2.2 = 400) ∧ ((Za r).2.2 = 0 ∨ (Za r).2.2 = 1 ∨ (Za r).2.2 = 400) := by
 obtain ⟨t1, t2⟩ := Zd0 r y
 by_cases q : dw r = []
 ·obtain ⟨h1, h2, h3⟩ := t1 q
  have e : Za r = ((phL 0 0 (tw r)).1, r, if tw r = [] ∨ (phL 0 0 (tw r)).2 = true then 1 else 400) := by unfold Za; rw [if_pos q]
  rw [e]
  simp only []
  by_cases q1 : tw r = [] ∨ (phL 0 0 (tw r)).2 = true
  ·rw [if_pos q1]
   exact ⟨fun h => absurd h (by decide), fun h => absurd h (by decide), .inr (.inl rfl)⟩
  ·rw [if_neg q1]
   refine ⟨fun h => absurd h (by decide), fun _ => ?_, .inr (.inr rfl)⟩
   rw [not_or] at q1
   have hb := Zdz (tw r) (tw y) 0 0 q1.1 (by simpa using q1.2)
   rw [← h1] at hb
   unfold Za
   have hne : tw (r ++ y) ≠ [] := by rw [h1]; simp [q1.1]
   split
   ·simp only []
    rw [if_neg (by rw [hb]; simp [hne])]
   ·rw [if_neg (by rw [hb]; simp)]
 ·obtain ⟨h1, h2⟩ := t2 q
  obtain ⟨a1, a2, a3⟩ := Zc0 (dw r) y
  have q' : ¬ dw (r ++ y) = [] := by rw [h2]; simp [q]
  by_cases q1 : (phL 0 0 (tw r)).2 = true
  ·have e : Za r = ((phL 0 0 (tw r)).1, (Zb (dw r)).2, (Zb (dw r)).1) := by unfold Za; rw [if_neg q, if_pos q1]
   have e' : Za (r ++ y) = ((phL 0 0 (tw r)).1, (Zb (dw r ++ y)).2, (Zb (dw r ++ y)).1) := by unfold Za; rw [if_neg q', h1, if_pos q1, h2]
   rw [e, e']
   simp only []
   refine ⟨fun h => by rw [a1 h], a2, a3⟩
  ·have e : Za r = ((phL 0 0 (tw r)).1, r, 400) := by unfold Za; rw [if_neg q, if_neg q1]
   have e' : Za (r ++ y) = ((phL 0 0 (tw r)).1, r ++ y, 400) := by unfold Za; rw [if_neg q', h1, if_neg q1]
   rw [e, e']
   exact ⟨fun h => absurd (show (400 : Int) = 0 from h) (by decide), fun _ => rfl, .inr (.inr rfl)⟩
theorem Za7 {r : List Int} (h : (Za r).2.2 = 0) : (Za r).2.1.length + 2 ≤ r.length := by
 have h1 := congrArg List.length (Z8 h)
 have h2 := Za5 r
 simp only [List.length_cons] at h1
 omega
theorem ZdK {r y : List Int} (h : (Za r).2.2 = 1) (h0 : (Za (r ++ y)).2.2 = 0) : (Za (r ++ y)).2.1.length < y.length := by
 obtain ⟨t1, t2⟩ := Zd0 r y
 by_cases q : dw r = []
 ·obtain ⟨h1, h2, h3⟩ := t1 q
  have hg := Z8 h0
  rw [h3] at hg
  have h5 := congrArg List.length hg
  have h6 := Za5 y
  simp only [List.length_cons] at h5
  omega
 ·obtain ⟨h1, h2⟩ := t2 q
  have q' : ¬ dw (r ++ y) = [] := by rw [h2]; simp [q]
  by_cases q1 : (phL 0 0 (tw r)).2 = true
  ·have e : Za r = ((phL 0 0 (tw r)).1, (Zb (dw r)).2, (Zb (dw r)).1) := by unfold Za; rw [if_neg q, if_pos q1]
   rw [e] at h
   have h5 := Zcp h
   have hg := Z8 h0
   rw [h2] at hg
   have h6 := congrArg List.length hg
   simp only [List.length_append, List.length_cons] at h6
   omega
  ·have e : Za r = ((phL 0 0 (tw r)).1, r, 400) := by unfold Za; rw [if_neg q, if_neg q1]
   rw [e] at h
   exact absurd (show (400 : Int) = 1 from h) (by decide)
theorem Zbo : ∀ (n : Nat) (r x : List Int), (chR n r x).2.2 = 0 → (chR n r x).2.1.length ≤ r.length
 | 0, r, x, h => by simp [chR] at h
 | n + 1, r, x, h => by
  rw [chR] at h ⊢
  by_cases c0 : (Za r).2.2 = 0
  ·have el := Za7 c0
   rw [if_neg (fun h => h c0)] at h ⊢
   generalize (Za r).1.toNat = k at h ⊢
   generalize (Za r).2.1 = t at h el ⊢
   by_cases c1 : 200 < x.length + k
   ·rw [if_pos c1] at h; exact absurd h (by decide)
   rw [if_neg c1] at h ⊢
   by_cases c2 : t.length < k
   ·rw [if_pos c2] at h; exact absurd h (by decide)
   rw [if_neg c2] at h ⊢
   by_cases c4 : (Zb (t.drop k)).1 = 0
   ·rw [if_neg (fun h => h c4)] at h ⊢
    have h5 := Zae c4
    rw [List.length_drop] at h5
    by_cases c6 : k = 0
    ·rw [if_pos c6]; simp only []; omega
    ·rw [if_neg c6] at h ⊢
     have := Zbo n _ _ h
     omega
   ·rw [if_pos c4] at h; exact absurd h c4
  ·rw [if_pos c0] at h; exact absurd h c0
theorem ZdA : ∀ (n m : Nat) (r x y : List Int), r.length < n → (r ++ y).length < m →
  ((chR n r x).2.2 = 0 → chR m (r ++ y) x = ((chR n r x).1, (chR n r x).2.1 ++ y, 0)) ∧
  ((chR n r x).2.2 ≠ 0 → (chR n r x).2.2 ≠ 1 → (chR m (r ++ y) x).2.2 = (chR n r x).2.2) ∧
  ((chR n r x).2.2 = 1 → (chR m (r ++ y) x).2.2 = 0 → (chR m (r ++ y) x).2.1.length < y.length)
 | 0, _, r, _, _, h, _ => by omega
 | _ + 1, 0, r, _, y, _, h => by omega
 | n + 1, m + 1, r, x, y, hn, hm => by
  obtain ⟨s0, s4, sc⟩ := Zd1 r y
  rw [chR, chR]
  by_cases c0 : (Za r).2.2 = 0
  ·rw [if_neg (fun h => h c0)]
   have e := s0 c0
   have el := Za7 c0
   rw [e]
   simp only [ne_eq, not_true_eq_false, if_false]
   generalize (Za r).1.toNat = k
   generalize hT : (Za r).2.1 = t at el
   clear s0 s4 sc c0 e hT
   by_cases c1 : 200 < x.length + k
   ·rw [if_pos c1, if_pos c1]
    exact ⟨fun h => absurd h (by decide), fun _ _ => rfl, fun h => absurd h (by decide)⟩
   rw [if_neg c1, if_neg c1]
   by_cases c2 : t.length < k
   ·rw [if_pos c2]
    refine ⟨fun h => absurd h (by decide), fun _ h => absurd rfl h, fun _ => ?_⟩
    by_cases c3 : (t ++ y).length < k
    ·rw [if_pos c3]; exact fun h => absurd h (by decide)
    rw [if_neg c3]
    have ed : (t ++ y).drop k = y.drop (k - t.length) := by rw [List.drop_append, List.drop_eq_nil_of_le (by omega)]; rfl
    rw [ed]
    by_cases c4 : (Zb (y.drop (k - t.length))).1 = 0
    ·rw [if_neg (fun h => h c4)]
     have h5 := Zae c4
     rw [List.length_drop] at h5
     rw [List.length_append] at c3
     by_cases c6 : k = 0
     ·omega
     rw [if_neg c6]
     intro h7
     have h8 := (Zbo m (Zb (y.drop (k - t.length))).2 (x ++ (t ++ y).take k) h7)
     omega
    ·rw [if_pos c4]; intro h; exact absurd h c4
   have c3 : ¬ (t ++ y).length < k := by rw [List.length_append]; omega
   rw [if_neg c2, if_neg c3]
   have ed : (t ++ y).drop k = t.drop k ++ y := by rw [List.drop_append_of_le_length (by omega)]
   have et : (t ++ y).take k = t.take k := by rw [List.take_append_of_le_length (by omega)]
   rw [ed, et]
   obtain ⟨a0, a4, ac⟩ := Zc0 (t.drop k) y
   by_cases c4 : (Zb (t.drop k)).1 = 0
   ·have h5 := Zae c4
    rw [List.length_drop] at h5
    rw [if_neg (fun h => h c4), a0 c4]
    simp only [ne_eq, not_true_eq_false, if_false]
    by_cases c6 : k = 0
    ·rw [if_pos c6, if_pos c6]
     exact ⟨fun _ => rfl, fun h => absurd rfl h, fun h => absurd (show (0 : Int) = 1 from h) (by decide)⟩
    ·rw [if_neg c6, if_neg c6]
     have hm' : ((Zb (t.drop k)).2 ++ y).length < m := by rw [List.length_append] at hm ⊢; omega
     exact ZdA n m (Zb (t.drop k)).2 (x ++ t.take k) y (by omega) hm'
   ·rw [if_pos c4]
    refine ⟨fun h => absurd h c4, fun h0 h1 => ?_, fun h => ?_⟩
    ·have h4 : (Zb (t.drop k)).1 = 400 := by simp only [] at h0 h1; omega
     rw [if_pos (by rw [a4 h4]; decide), a4 h4, h4]
    ·have h6 := Zcp h
     rw [List.length_drop] at h6
     by_cases c5 : (Zb (t.drop k ++ y)).1 = 0
     ·rw [if_neg (fun h => h c5)]
      have h7 := Zae c5
      rw [List.length_append, List.length_drop] at h7
      by_cases c6 : k = 0
      ·rw [if_pos c6]; intro _; simp only []; omega
      ·rw [if_neg c6]
       intro h8
       have h9 := Zbo m _ _ h8
       omega
     ·rw [if_pos c5]; intro h8; exact absurd h8 c5
  ·rw [if_pos c0]
   refine ⟨fun h => absurd h c0, fun h0 h1 => ?_, fun h => ?_⟩
   ·have h4 : (Za r).2.2 = 400 := by simp only [] at h1; omega
    rw [if_pos (by rw [s4 h4]; decide), s4 h4, h4]
   ·by_cases c5 : (Za (r ++ y)).2.2 = 0
    ·have h6 := ZdK h c5
     rw [if_neg (fun h => h c5)]
     generalize (Za (r ++ y)).1.toNat = k
     generalize (Za (r ++ y)).2.1 = t at h6
     split
     ·intro h; exact absurd h (by decide)
     ·split
      ·intro h; exact absurd h (by decide)
      ·by_cases c7 : (Zb (t.drop k)).1 = 0
       ·rw [if_neg (fun h => h c7)]
        have h7 := Zae c7
        rw [List.length_drop] at h7
        split
        ·intro _; simp only []; omega
        ·intro h8
         have h9 := Zbo m _ _ h8
         omega
       ·rw [if_pos c7]; intro h8; exact absurd h8 c7
    ·rw [if_pos c5]; intro h8; exact absurd h8 c5
def chV (l : List Int) (r : List Int × List Int × Int) : BA × Int × Int := if r.2.2 = 0 then (strOfNums r.1, (l.length : Int) - (r.2.1.length : Int), 0) else ((⟨#[]⟩ : BA), 0, r.2.2)
theorem ZaI (l a b : List Int) {c : Int} (h : c ≠ 0) : chV l (a, b, c) = ((⟨#[]⟩ : BA), 0, c) := by unfold chV; rw [if_neg h]
theorem ZbD (l a b : List Int) : chV l (a, b, 0) = (strOfNums a, (l.length : Int) - (b.length : Int), 0) := by unfold chV; rw [if_pos rfl]
theorem ZeM (a b : List Int) (ha : ∀ x ∈ a, 0 ≤ x ∧ x < 256) (hb : ∀ x ∈ b, 0 ≤ x ∧ x < 256) : strOfNums a ++ strOfNums b = strOfNums (a ++ b) := by
 apply bytesOf_inj
 rw [bytesOf_append, bytesOf_strOfNums a ha, bytesOf_strOfNums b hb, bytesOf_strOfNums (a ++ b) (fun x hx => (List.mem_append.1 hx).elim (ha x) (hb x))]
theorem Zbv (l : List Int) (hl : l.length ≤ 1048576) : ∀ (n : Nat) (R x : List Int), R.length < n → R.length ≤ l.length → (∀ z ∈ R, 0 ≤ z ∧ z < 256) → (∀ z ∈ x, 0 ≤ z ∧ z < 256) → x.length ≤ 200 → Ev (fun k => impl_GetChunks.l0 k l (strOfNums x) (strOfNums R) 0) (chV l (chR n R x))
 | 0, R, x, h, _, _, _, _ => by omega
 | n + 1, R, x, hn, hR, hr, hxr, hx => by
  have hsz := Zdx R hr (by omega)
  rw [chR]
  apply ev_succ
  simp only [impl_GetChunks.l0]
  refine Ev.bind hsz ?_
  by_cases hc : (Za R).2.2 = 0
  ·rw [if_neg (fun h => h hc)]
   have hlen := Za7 hc
   have hn0 := ZbT (tw R)
   rw [← Zdy] at hn0
   have htr : ∀ z ∈ (Za R).2.1, 0 ≤ z ∧ z < 256 := fun z hz => ZcU hr z (by rw [Z8 hc]; simp [hz])
   obtain ⟨m, hm⟩ : ∃ m : Nat, (Za R).1 = (m : Int) := ⟨(Za R).1.toNat, by omega⟩
   simp only [hc, if_true, hm, Int.toNat_natCast]
   rw [hm] at hn0
   generalize (Za R).2.1 = t at hlen htr
   clear hsz hc hm
   have hw : wrap64 (((strOfNums x).size : Int) + (m : Int)) = ((x.length + m : Nat) : Int) := by rw [strOfNums_size, wrap_id (by omega) (by omega)]; omega
   have hwl : ∀ u : List Int, u.length ≤ l.length → wrap64 ((l.length : Int) - ((strOfNums u).size : Int)) = (l.length : Int) - (u.length : Int) := by
    intro u hu; rw [strOfNums_size, wrap_id (by omega) (by omega)]
   have hts : (strOfNums t).size = t.length := strOfNums_size t
   have hxs : (strOfNums x).size = x.length := strOfNums_size x
   simp only [hw, hts]
   by_cases q1 : 200 < x.length + m
   ·rw [if_pos q1, ZaI _ _ _ (by decide)]
    simp only [if_pos (show ((x.length + m : Nat) : Int) > 200 by omega)]
    exact Zw _ _ _ _ _ (by decide)
   rw [if_neg q1]
   simp only [if_neg (show ¬ ((x.length + m : Nat) : Int) > 200 by omega)]
   by_cases q2 : t.length < m
   ·rw [if_pos q2, ZaI _ _ _ (by decide)]
    simp only [if_pos (show (m : Int) > (t.length : Int) by omega)]
    exact Zw _ _ _ _ _ (by decide)
   rw [if_neg q2]
   have e1 : (strOfNums t).extract 0 m = strOfNums (t.take m) := by rw [ZcQ _ htr]; rfl
   have e2 : (strOfNums t).extract m t.length = strOfNums (t.drop m) := by
    have := Zbm _ htr m
    rw [strOfNums_size] at this
    exact this
   have hsz1 : (strOfNums (t.take m)).size = m := by rw [strOfNums_size, List.length_take]; omega
   have hend := ZcT (t.drop m) (fun z hz => htr z (List.mem_of_mem_drop hz))
   simp only [if_neg (show ¬ (m : Int) > (t.length : Int) by omega), if_pos (show (0 : Int) ≤ (m : Int) by omega), if_pos (show (m : Int) ≤ (t.length : Int) by omega), e1, e2, hsz1, hxs, if_pos (show x.length + m ≤ 9223372036854775807 by omega)]
   refine Ev.bind hend ?_
   have e3 : strOfNums x ++ strOfNums (t.take m) = strOfNums (x ++ t.take m) := ZeM _ _ hxr (fun z hz => htr z (List.mem_of_mem_take hz))
   simp only [e3]
   by_cases q3 : (Zb (t.drop m)).1 = 0
   ·rw [if_neg (fun h => h q3)]
    have h5 := Zae q3
    have hz := ZaA q3
    have hur : ∀ z ∈ (Zb (t.drop m)).2, 0 ≤ z ∧ z < 256 := fun z hz' => htr z (List.mem_of_mem_drop (i := m) (by rw [hz]; simp [hz']))
    rw [List.length_drop] at h5
    rw [q3]
    generalize (Zb (t.drop m)).2 = u at h5 hur
    clear hend hz q3
    apply ev_succ
    simp only [impl_GetChunks.j1, if_true]
    by_cases q4 : m = 0
    ·rw [if_pos q4, ZbD]
     subst q4
     simp only [if_pos (show ((0 : Nat) : Int) = 0 from rfl), List.take_zero, List.append_nil]
     rw [hwl u (by omega)]
     exact Ev.now _
    ·rw [if_neg q4]
     simp only [if_neg (show ¬ (m : Int) = 0 by omega)]
     refine Zbv l hl n u (x ++ t.take m) (by omega) (by omega) hur ?_ (by rw [List.length_append, List.length_take]; omega)
     intro z hz
     rcases List.mem_append.1 hz with hz | hz
     ·exact hxr z hz
     ·exact htr z (List.mem_of_mem_take hz)
   ·rw [if_pos q3, ZaI _ _ _ q3]
    exact Zw _ _ _ _ _ q3
  ·rw [if_pos hc, ZaI _ _ _ hc]
   simp only [if_neg hc]
   exact Zw _ _ _ _ _ hc
theorem ZaJ (l : List Int) (hl : l.length ≤ 1048576) (hr : ∀ x ∈ l, 0 ≤ x ∧ x < 256) (p : Nat) (hp : p ≤ l.length) (n : Nat) (hn : (l.drop p).length < n) : Ev (fun k => impl_GetChunks.f k l (p : Int)) (chV l (chR n (l.drop p) [])) := by
 unfold impl_GetChunks.f
 simp only [ZcM, Option.bind_some, decide_eq_true (show (0 : Int) ≤ (p : Int) by omega), decide_eq_true (show (p : Int) ≤ (l.length : Int) by omega), Bool.and_self, if_true, if_pos (show (0 : Int) ≤ (p : Int) by omega), if_pos (show (p : Int) ≤ (l.length : Int) by omega), Int.toNat_natCast]
 exact Zbv l hl n (l.drop p) [] hn (by rw [List.length_drop]; omega) (fun z hz => hr z (List.mem_of_mem_drop hz)) (by simp) (by simp)
theorem Zdl (s : BA) : s.data.toList = (bytesOf s).map fun n => UInt8.ofNat n.toNat := by
 have h := congrArg (fun b : BA => b.data.toList) (strOfNums_bytesOf s)
 simp only [strOfNums_data] at h
 exact h.symm
def Zt : List Int → List Int → List (List Int)
 | cur, [] => [cur]
 | cur, [c] => [cur ++ [c]]
 | cur, c :: d :: r => if c = 13 ∧ d = 10 then cur :: Zt [] r else Zt (cur ++ [c]) (d :: r)
def Ze (l : List Int) : List BA := (Zt [] l).map strOfNums
def ZM : List Int → Option Nat
 | [] => none
 | [_] => none
 | c :: d :: r => if c = 13 ∧ d = 10 then some 0 else (ZM (d :: r)).map (· + 1)
theorem Zc1 : ∀ (l cur : List Int), Zt cur l = match ZM l with
  | none => [cur ++ l]
  | some i => (cur ++ l.take i) :: Zt [] (l.drop (i + 2))
 | [], cur => by simp [Zt, ZM]
 | [c], cur => by simp [Zt, ZM]
 | c :: d :: r, cur => by
  rw [Zt, ZM]
  by_cases q : c = 13 ∧ d = 10
  ·rw [if_pos q, if_pos q]; simp
  ·rw [if_neg q, if_neg q, Zc1 (d :: r) (cur ++ [c])]
   cases h : ZM (d :: r) with
   | none => simp
   | some i => simp
theorem ZdB : ∀ (l : List Int) (i : Nat), ZM l = some i → i + 2 ≤ l.length
 | [], i, h => by simp [ZM] at h
 | [c], i, h => by simp [ZM] at h
 | c :: d :: r, i, h => by
  rw [ZM] at h
  split at h
  ·injection h with h; subst h; simp
  ·cases h2 : ZM (d :: r) with
   | none => rw [h2] at h; cases h
   | some j =>
    rw [h2] at h
    simp only [Option.map_some, Option.some.injEq] at h
    have h3 := ZdB (d :: r) j h2
    simp only [List.length_cons] at h3 ⊢
    omega
theorem ZeN (t : List Int) (hr : ∀ x ∈ t, 0 ≤ x ∧ x < 256) : ([13, 10] : List UInt8).isPrefixOf (t.map fun n => UInt8.ofNat n.toNat) = decide (t.take 2 = [13, 10]) := by
 match t, hr with
 | [], _ => rfl
 | [a], _ => simp [List.isPrefixOf]
 | a :: b :: r, hr =>
  have ha := hr a (by simp); have hb := hr b (by simp)
  have e1 := ZaP ha.1 ha.2 13 (by omega); have e2 := ZaP hb.1 hb.2 10 (by omega)
  simp only [List.map_cons, List.isPrefixOf, Bool.and_true]
  have c13 : (13 : UInt8) = UInt8.ofNat 13 := rfl
  have c10 : (10 : UInt8) = UInt8.ofNat 10 := rfl
  rw [c13, c10, e1, e2]
  rw [Bool.eq_iff_iff]
  simp
theorem ZbV : ∀ (t : List Int), (∀ x ∈ t, 0 ≤ x ∧ x < 256) → Lib.index (t.map fun n => UInt8.ofNat n.toNat) [13, 10] = match ZM t with
  | none => (-1 : Int)
  | some i => (i : Int)
 | [], _ => rfl
 | [c], hr => by
  have hp := ZeN [c] hr
  simp only [List.map_cons, List.map_nil] at hp ⊢
  rw [Lib.index, hp]
  simp [ZM, Lib.index]
 | c :: d :: r, hr => by
  have hp := ZeN (c :: d :: r) hr
  have ih := ZbV (d :: r) (fun x hx => hr x (by simp [hx]))
  rw [List.map_cons] at hp ⊢
  rw [Lib.index, hp, ZM, ih]
  by_cases q : c = 13 ∧ d = 10
  ·rw [if_pos q, q.1, q.2]; rfl
  ·rw [if_neg q, decide_eq_false (by simpa using q)]
   cases h : ZM (d :: r) with
   | none => rfl
   | some i =>
    simp only [Option.map_some, Bool.false_eq_true, if_false]
    rw [if_neg (by simp only [beq_iff_eq]; omega)]
    simp
theorem Zd2 (s : BA) : Lib.indexB s ⟨#[13, 10]⟩ = match ZM (bytesOf s) with
  | none => (-1 : Int)
  | some i => (i : Int) := by
 show Lib.index s.data.toList [13, 10] = _
 rw [Zdl, ZbV _ (bytesOf_range s)]
theorem ZcC : ∀ (n : Nat) (s : BA), s.size ≤ n → Lib.splitB ⟨#[13, 10]⟩ 0 (Lib.countB s ⟨#[13, 10]⟩) s = Ze (bytesOf s) := by
 intro n
 induction n with
 | zero =>
  intro s h
  have h0 : bytesOf s = [] := List.eq_nil_of_length_eq_zero (by rw [bytesOf_length]; omega)
  have hi : Lib.indexB s ⟨#[13, 10]⟩ = -1 := by rw [Zd2, h0]; rfl
  rw [Lib.splitB_miss _ _ _ _ hi]
  unfold Ze
  rw [h0]
  have : s = strOfNums [] := by rw [← h0, strOfNums_bytesOf]
  rw [this]; rfl
 | succ n ih =>
  intro s h
  have hi := Zd2 s
  unfold Ze
  rw [Zc1]
  cases q : ZM (bytesOf s) with
  | none =>
   rw [q] at hi
   rw [Lib.splitB_miss _ _ _ _ hi]
   simp [strOfNums_bytesOf]
  | some i =>
   rw [q] at hi
   simp only [] at hi ⊢
   have hle := ZdB _ _ q
   rw [bytesOf_length] at hle
   have h1 : 1 ≤ (⟨#[13, 10]⟩ : BA).size := by decide
   rw [Lib.countB_hit s ⟨#[13, 10]⟩ _ h1 hi, Nat.add_comm, Lib.splitB_hit _ _ _ _ _ hi]
   have e1 : bytesOf (s.extract (i + (⟨#[13, 10]⟩ : BA).size) s.size) = (bytesOf s).drop (i + 2) := by
    rw [bytesOf_extract, List.take_of_length_le (by rw [bytesOf_length]; exact Nat.le_refl _)]
    rfl
   have e2 : s.extract 0 (i + 0) = strOfNums ((bytesOf s).take i) := by
    apply bytesOf_inj
    rw [bytesOf_extract, Nat.add_zero, List.drop_zero, bytesOf_strOfNums]
    intro x hx
    exact bytesOf_range s x (List.mem_of_mem_take hx)
   have hsz : (s.extract (i + (⟨#[13, 10]⟩ : BA).size) s.size).size ≤ n := by
    rw [size_len, e1, List.length_drop, bytesOf_length]; omega
   rw [ih _ hsz, e1, e2]
   simp [Ze]
theorem Ze2 (t : List Int) (hr : ∀ x ∈ t, 0 ≤ x ∧ x < 256) : ([13, 10, 13, 10] : List UInt8).isPrefixOf (t.map fun n => UInt8.ofNat n.toNat) = decide (t.take 4 = [13, 10, 13, 10]) := by
 match t, hr with
 | [], _ => rfl
 | [a], _ => simp [List.isPrefixOf]
 | [a, b], _ => simp [List.isPrefixOf]
 | [a, b, c], _ => simp [List.isPrefixOf]
 | a :: b :: c :: d :: r, hr =>
  have ha := hr a (by simp); have hb := hr b (by simp); have hc := hr c (by simp); have hd := hr d (by simp)
  have e1 := ZaP ha.1 ha.2 13 (by omega); have e2 := ZaP hb.1 hb.2 10 (by omega); have e3 := ZaP hc.1 hc.2 13 (by omega); have e4 := ZaP hd.1 hd.2 10 (by omega)
  simp only [List.map_cons, List.isPrefixOf, Bool.and_true]
  have c13 : (13 : UInt8) = UInt8.ofNat 13 := rfl
  have c10 : (10 : UInt8) = UInt8.ofNat 10 := rfl
  rw [c13, c10, e1, e2, e3, e4]
  rw [Bool.eq_iff_iff]
  simp
def ZA : Nat → List Int → Int
 | _, [] => -1
 | i, c :: r => if (c :: r).take 4 = [13, 10, 13, 10] then (i : Int) + 4 else ZA (i + 1) r
theorem ZbW : ∀ (t : List Int) (i : Nat), ZA i t ≤ i + t.length ∧ -1 ≤ ZA i t
 | [], _ => by simp [ZA]
 | c :: r, i => by
  rw [ZA]
  split
  ·rename_i e
   have := congrArg List.length e
   simp at this
   simp; omega
  ·have := ZbW r (i + 1)
   simp; omega
theorem ZbX : ∀ (t : List Int) (i : Nat), (∀ x ∈ t, 0 ≤ x ∧ x < 256) → (if Lib.index (t.map fun n => UInt8.ofNat n.toNat) [13, 10, 13, 10] < 0 then (-1 : Int) else i + Lib.index (t.map fun n => UInt8.ofNat n.toNat) [13, 10, 13, 10] + 4) = ZA i t
 | [], i, _ => rfl
 | c :: r, i, hr => by
  have hp := Ze2 (c :: r) hr
  have ih := ZbX r (i + 1) (fun x hx => hr x (by simp [hx]))
  have hg := Lib.index_ge (r.map fun n => UInt8.ofNat n.toNat) [13, 10, 13, 10]
  rw [List.map_cons] at hp ⊢
  rw [Lib.index, hp, ZA]
  by_cases q : (c :: r).take 4 = [13, 10, 13, 10]
  ·rw [if_pos q, decide_eq_true q]; simp
  ·rw [if_neg q, decide_eq_false q, ← ih]
   simp only [Bool.false_eq_true, if_false, beq_iff_eq]
   by_cases q1 : Lib.index (r.map fun n => UInt8.ofNat n.toNat) [13, 10, 13, 10] = -1
   ·rw [if_pos q1, q1]; rfl
   ·rw [if_neg q1, if_neg (by omega), if_neg (by omega)]
    rw [show ((i + 1 : Nat) : Int) = i + 1 from rfl]; omega
def Zk (l : List Int) : Int := ZA 0 (l.take 400)
theorem ZeO (l : List Int) : mn (l.length : Int) 400 = ((min l.length 400 : Nat) : Int) := by unfold mn; split <;> omega
theorem Zek (l : List Int) : l.take (min l.length 400) = l.take 400 := by
 rcases Nat.le_total l.length 400 with h | h
 ·rw [Nat.min_eq_left h, List.take_of_length_le (Nat.le_refl _), List.take_of_length_le h]
 ·rw [Nat.min_eq_right h]
theorem ZbY (l : List Int) (hr : ∀ x ∈ l, 0 ≤ x ∧ x < 256) : impl_HeadEnd.f l = some (Zk l) := by
 unfold impl_HeadEnd.f
 have hm := ZeO l
 rw [hm, if_pos (by omega), if_pos (by omega), Int.toNat_natCast, Zek]
 have hsz : (strOfNums (l.take 400)).size ≤ 400 := by rw [strOfNums_size, List.length_take]; omega
 unfold strings_Index.f
 rw [if_pos (by omega), Option.bind_some, strOfNums_data]
 have h0 := ZbX (l.take 400) 0 (fun x hx => hr x (List.mem_of_mem_take hx))
 have hg := Lib.index_ge ((l.take 400).map fun n => UInt8.ofNat n.toNat) [13, 10, 13, 10]
 have hl := Lib.index_le ((l.take 400).map fun n => UInt8.ofNat n.toNat) [13, 10, 13, 10]
 rw [List.length_map, List.length_take] at hl
 unfold Zk
 rw [← h0]
 change (if Lib.index ((l.take 400).map fun n => UInt8.ofNat n.toNat) [13, 10, 13, 10] < 0 then some (-1) else some (wrap64 (Lib.index ((l.take 400).map fun n => UInt8.ofNat n.toNat) [13, 10, 13, 10] + 4))) = _
 by_cases q : Lib.index ((l.take 400).map fun n => UInt8.ofNat n.toNat) [13, 10, 13, 10] < 0
 ·rw [if_pos q, if_pos q]
 ·rw [if_neg q, if_neg q, wrap_id (by omega) (by omega)]; congr 1; simp
def Zs : List (List Int) → List Int
 | [] => []
 | [a] => a
 | a :: b :: r => a ++ 13 :: 10 :: Zs (b :: r)
theorem ZbE : ∀ (a cur r : List Int), (∀ x ∈ a, x ≠ 13) → Zt cur (a ++ r) = Zt (cur ++ a) r
 | [], cur, r, _ => by simp
 | x :: a, cur, r, h => by
  have hx : x ≠ 13 := h x (by simp)
  have ih := ZbE a (cur ++ [x]) r (fun y hy => h y (by simp [hy]))
  have e : cur ++ [x] ++ a = cur ++ x :: a := by simp
  rw [e] at ih
  rw [← ih, List.cons_append]
  cases hr : a ++ r with
  | nil => simp [Zt]
  | cons d t => rw [Zt, if_neg (fun q => hx q.1)]
theorem Zel (cur r : List Int) : Zt cur (13 :: 10 :: r) = cur :: Zt [] r := by rw [Zt, if_pos ⟨rfl, rfl⟩]
theorem Zcq : ∀ (ls : List (List Int)), ls ≠ [] → (∀ a ∈ ls, ∀ x ∈ a, x ≠ 13) → Zt [] (Zs ls) = ls
 | [], h, _ => absurd rfl h
 | [a], _, h => by
  have h1 := ZbE a [] [] (h a (by simp))
  rw [List.append_nil, List.nil_append] at h1
  rw [Zs, h1, Zt]
 | a :: b :: r, _, h => by
  rw [Zs, ZbE a [] _ (h a (by simp)), Zel, Zcq (b :: r) (by simp) (fun c hc => h c (by simp [hc]))]
  simp
theorem Za8 : ∀ (a : List Int) (i : Nat) (r : List Int), (∀ x ∈ a, x ≠ 13) → ZA i (a ++ r) = ZA (i + a.length) r
 | [], i, r, _ => by simp
 | x :: a, i, r, h => by
  have hx : x ≠ 13 := h x (by simp)
  rw [List.cons_append, ZA, if_neg (fun q => by simp at q; exact hx q.1), Za8 a (i + 1) r (fun y hy => h y (by simp [hy])), List.length_cons]
  congr 1; omega
theorem Zem (i : Nat) (r : List Int) (h : r.head? ≠ some 13) : ZA i (13 :: 10 :: r) = ZA (i + 2) r := by
 rw [ZA, if_neg (fun q => by
  cases r with
  | nil => simp at q
  | cons y t => simp at q; simp at h; exact h q.1), ZA, if_neg (by simp)]
theorem ZdL {b : List Int} {r : List (List Int)} (hb : b ≠ []) (h : ∀ x ∈ b, x ≠ 13) (t : List Int) : (Zs (b :: r) ++ t).head? ≠ some 13 := by
 cases b with
 | nil => exact absurd rfl hb
 | cons y u =>
  have hy := h y (by simp)
  cases r with
  | nil => simp [Zs]; exact hy
  | cons c s => simp [Zs]; exact hy
theorem Zcr : ∀ (ls : List (List Int)) (i : Nat) (t : List Int), ls ≠ [] → (∀ a ∈ ls, a ≠ [] ∧ ∀ x ∈ a, x ≠ 13) → ZA i (Zs ls ++ 13 :: 10 :: 13 :: 10 :: t) = ((i + (Zs ls).length + 4 : Nat) : Int)
 | [], _, _, h, _ => absurd rfl h
 | [a], i, t, _, h => by
  rw [Zs, Za8 a i _ (h a (by simp)).2, ZA, if_pos (by simp)]
  rfl
 | a :: b :: r, i, t, _, h => by
  have ih := Zcr (b :: r) (i + a.length + 2) t (by simp) (fun c hc => h c (by simp [hc]))
  have hb := h b (by simp)
  rw [Zs, List.append_assoc, List.cons_append, List.cons_append, Za8 a i _ (h a (by simp)).2, Zem _ _ (ZdL hb.1 hb.2 _), ih]
  simp only [List.length_append, List.length_cons]
  congr 1; omega
def ZB (u : Nat) : List Int := (Lib.decDigits u).map fun b => (b.toNat : Int)
theorem Z5 (u : Nat) (h : 9 < u) : ZB u = ZB (u / 10) ++ [48 + ((u % 10 : Nat) : Int)] := by
 unfold ZB
 rw [Lib.decDigits, dif_neg (by omega), List.map_append]
 congr 1
 simp only [List.map_cons, List.map_nil, List.cons.injEq, and_true]
 rw [show (UInt8.ofNat (48 + u % 10)).toNat = 48 + u % 10 from by simp; omega]
 omega
theorem ZH (u : Nat) (h : u ≤ 9) : ZB u = [48 + (u : Int)] := by
 unfold ZB
 rw [Lib.decDigits, dif_pos (by omega)]
 simp only [List.map_cons, List.map_nil, List.cons.injEq, and_true]
 rw [show (UInt8.ofNat (48 + u)).toNat = 48 + u from by simp; omega]
 omega
theorem ZbZ (u : Nat) : ∀ x ∈ ZB u, 0 ≤ x ∧ x < 256 := by
 intro x hx
 obtain ⟨b, _, rfl⟩ := List.mem_map.1 hx
 have := b.toNat_lt
 omega
theorem ZeP (u : Nat) : (⟨(Lib.decDigits u).toArray⟩ : BA) = strOfNums (ZB u) := by
 apply bytesOf_inj
 rw [bytesOf_strOfNums _ (ZbZ u), bytesOf_mk]; rfl
theorem Zc2 : ∀ (k u : Nat), u < 10 ^ (k + 1) → (ZB u).length ≤ k + 1
 | 0, u, h => by rw [ZH u (by simpa using Nat.le_of_lt_succ h)]; simp
 | k + 1, u, h => by
  rcases Nat.lt_or_ge 9 u with h9 | h9
  ·rw [Z5 u h9, List.length_append]
   have := Zc2 k (u / 10) (by rw [Nat.pow_succ] at h; omega)
   simp; omega
  ·rw [ZH u h9]; simp
def ZI : Int → List Int → Option Int
 | a, [] => some a
 | a, c :: r => if 48 ≤ c ∧ c ≤ 57 then ZI (a * 10 + (c - 48)) r else none
theorem Zcs : ∀ (l : List UInt8) (acc : Nat), ZI (acc : Int) (l.map fun b => (b.toNat : Int)) = (Lib.decFrom acc l).map fun m => (m : Int)
 | [], _ => rfl
 | c :: r, acc => by
  simp only [List.map_cons, ZI, Lib.decFrom, Lib.digitVal]
  by_cases h : 48 ≤ c.toNat ∧ c.toNat ≤ 57
  ·rw [if_pos h, if_pos (by omega), ← Zcs r]
   congr 1; omega
  ·rw [if_neg h, if_neg (by omega)]; rfl
theorem Za9 : ∀ (l : List Int) (a c : Int), ZI a (l ++ [c]) = (ZI a l).bind fun m => if 48 ≤ c ∧ c ≤ 57 then some (m * 10 + (c - 48)) else none
 | [], a, c => by simp [ZI]
 | d :: r, a, c => by
  simp only [List.cons_append, ZI]
  split
  ·exact Za9 r _ c
  ·rfl
theorem ZaK : ∀ (l : List Int) (a m : Int), 0 ≤ a → ZI a l = some m → 0 ≤ m ∧ m < (a + 1) * 10 ^ l.length
 | [], a, m, ha, h => by simp only [ZI, Option.some.injEq] at h; subst h; simp; omega
 | c :: r, a, m, ha, h => by
  simp only [ZI] at h
  split at h
  ·have := ZaK r _ m (by omega) h
   refine ⟨this.1, Int.lt_of_lt_of_le this.2 ?_⟩
   rw [List.length_cons, Int.pow_succ, Int.mul_comm (10 ^ r.length) 10, ← Int.mul_assoc]
   exact Int.mul_le_mul_of_nonneg_right (by omega) (Int.le_of_lt (Int.pow_pos (by decide)))
  ·cases h
theorem Zci (u : Nat) : ZB u ≠ [] := by
 rcases Nat.lt_or_ge 9 u with h9 | h9
 ·rw [Z5 u h9]; simp
 ·rw [ZH u h9]; simp
theorem Zba (u : Nat) : ZI 0 (ZB u) = some (u : Int) := by
 induction u using Nat.strongRecOn with
 | _ u ih =>
  rcases Nat.lt_or_ge 9 u with h9 | h9
  ·rw [Z5 u h9, Za9, ih (u / 10) (by omega), Option.bind_some, if_pos (by omega)]
   congr 1; omega
  ·rw [ZH u h9]
   simp only [ZI]
   rw [if_pos (by omega)]
   congr 1; omega
theorem ZeB (u : Nat) : ∀ r, ZB u = 48 :: r → u = 0 := by
 induction u using Nat.strongRecOn with
 | _ u ih =>
  intro r h
  rcases Nat.lt_or_ge 9 u with h9 | h9
  ·rw [Z5 u h9] at h
   cases hd : ZB (u / 10) with
   | nil => have := Zci (u / 10); exact absurd hd this
   | cons c t =>
    rw [hd, List.cons_append] at h
    obtain ⟨rfl, _⟩ := List.cons.inj h
    have := ih (u / 10) (by omega) t hd
    omega
  ·rw [ZH u h9] at h
   have := (List.cons.inj h).1
   omega
theorem Zen (u : Nat) : ∀ c ∈ ZB u, 48 ≤ c ∧ c ≤ 57 := by
 induction u using Nat.strongRecOn with
 | _ u ih =>
  intro c h
  rcases Nat.lt_or_ge 9 u with h9 | h9
  ·rw [Z5 u h9, List.mem_append] at h
   rcases h with h | h
   ·exact ih (u / 10) (by omega) c h
   ·simp at h; omega
  ·rw [ZH u h9] at h
   simp at h; omega
theorem Zc3 : ∀ (n : Nat) (l : List Int) (m : Int), l.length = n + 1 → ZI 0 l = some m → (n = 0 ∨ ∀ r, l ≠ 48 :: r) → ZB m.toNat = l
 | 0, l, m, hl, h, _ => by
  obtain ⟨c, rfl⟩ := List.length_eq_one_iff.1 hl
  simp only [ZI] at h
  split at h
  ·obtain rfl := Option.some.inj h
   rw [ZH _ (by omega)]
   congr 1; omega
  ·cases h
 | n + 1, l, m, hl, h, h0 => by
  replace h0 : ∀ r, l ≠ 48 :: r := by
   rcases h0 with h0 | h0
   ·omega
   ·exact h0
  obtain ⟨l', c, rfl⟩ : ∃ l' c, l = l' ++ [c] := ⟨l.dropLast, l.getLast (by intro e; subst e; simp at hl), (List.dropLast_concat_getLast _).symm⟩
  have hl' : l'.length = n + 1 := by simp at hl; omega
  rw [Za9] at h
  obtain ⟨m', hm', h⟩ := Option.bind_eq_some_iff.1 h
  split at h
  ·rename_i hc
   obtain rfl := Option.some.inj h
   have hb := ZaK l' 0 m' (by omega) hm'
   have h0' : ∀ r, l' ≠ 48 :: r := fun r e => h0 (r ++ [c]) (by rw [e]; rfl)
   have ih := Zc3 n l' m' hl' hm' (.inr h0')
   have h1 : 0 < m'.toNat := by
    rcases Nat.eq_zero_or_pos m'.toNat with e | e
    ·rw [e, ZH 0 (by omega)] at ih
     exact absurd ih.symm (h0' [])
    ·exact e
   rw [Z5 _ (by omega), show (m' * 10 + (c - 48)).toNat / 10 = m'.toNat from by omega, ih]
   congr 2; omega
  ·cases h
theorem ZaC (n : Int) (hn : n ≤ 9223372036854775807) : impl_NumText.f n = some (strOfNums (ZB n.toNat)) := by
 have e : mx n 0 = ((n.toNat : Nat) : Int) := by unfold mx; split <;> omega
 unfold impl_NumText.f
 rw [e]
 unfold strconv_Itoa.f
 rw [if_pos (by omega), Option.bind_some]
 unfold Lib.itoa
 rw [if_neg (by omega), Int.toNat_natCast, ZeP]
def Z1 (s : BA) (most : Int) : Int × Bool :=
 match ZI 0 (bytesOf s) with
 | none => (0, false)
 | some n => if 1 ≤ s.size ∧ s.size ≤ 7 ∧ ¬ (1 < s.size ∧ (bytesOf s).head? = some 48) ∧ n ≤ most then (n, true) else (0, false)
theorem Zc4 (s : BA) (most : Int) (u : Nat) (hu : bytesOf s = ZB u) (h7 : s.size ≤ 7) (hm : (u : Int) ≤ most) : Z1 s most = ((u : Int), true) := by
 unfold Z1
 rw [hu, Zba]
 have hne := Zci u
 have hl : s.size = (ZB u).length := by rw [← hu, bytesOf_length]
 have h1 : 1 ≤ s.size := by
  rcases Nat.eq_zero_or_pos s.size with e | e
  ·rw [e] at hl; exact absurd (List.length_eq_zero_iff.1 hl.symm) hne
  ·exact e
 refine if_pos ⟨h1, h7, ?_, hm⟩
 rintro ⟨h2, h3⟩
 cases hd : ZB u with
 | nil => exact hne hd
 | cons c r =>
  rw [hd] at h3 hl
  simp only [List.head?_cons, Option.some.injEq] at h3
  subst h3
  have := ZeB u r hd
  subst this
  rw [ZH 0 (by omega)] at hd
  obtain ⟨_, rfl⟩ := List.cons.inj hd
  simp at hl; omega
theorem ZdC (s : BA) (most : Int) (h : ∀ u : Nat, bytesOf s = ZB u → s.size ≤ 7 → ¬ (u : Int) ≤ most) : Z1 s most = (0, false) := by
 unfold Z1
 cases hd : ZI 0 (bytesOf s) with
 | none => rfl
 | some n =>
  refine if_neg ?_
  rintro ⟨h1, h7, h0, hm⟩
  have hb := ZaK _ 0 n (by omega) hd
  have hl := bytesOf_length s
  have := Zc3 (s.size - 1) (bytesOf s) n (by omega) hd (by
   rcases Nat.eq_zero_or_pos (s.size - 1) with e | e
   ·exact .inl e
   ·refine .inr fun r hr => h0 ⟨by omega, by rw [hr]; rfl⟩)
  exact h n.toNat this.symm h7 (by omega)
theorem ZbF (s : BA) (most : Int) (hs : s.size ≤ 281474976710656) : impl_ParseNum.f s most = some (Z1 s most) := by
 unfold impl_ParseNum.f
 rw [if_pos hs]
 have hbs : bytesOf s = s.data.toList.map fun b => (b.toNat : Int) := rfl
 by_cases hy : ∃ u : Nat, bytesOf s = ZB u ∧ s.size ≤ 7 ∧ (u : Int) ≤ most
 ·obtain ⟨u, hu, h7, hm⟩ := hy
  rw [Zc4 s most u hu h7 hm]
  have hlen : s.data.toList.length ≤ 18 := by have := data_length s; omega
  have hdec : Lib.decFrom 0 s.data.toList = some u := by
   have h1 := Zcs s.data.toList 0
   rw [← hbs, hu, show ((0 : Nat) : Int) = 0 from rfl, Zba] at h1
   cases hd : Lib.decFrom 0 s.data.toList with
   | none => rw [hd] at h1; cases h1
   | some m => rw [hd] at h1; have h2 : (u : Int) = (m : Int) := Option.some.inj h1; congr 1; omega
  have hat : Lib.atoiAll s.data.toList = .ok (u : Int) := by
   cases hl : s.data.toList with
   | nil => rw [hl] at hbs; rw [hu] at hbs; exact absurd hbs (Zci u)
   | cons c r =>
    have hc : 48 ≤ (c.toNat : Int) ∧ (c.toNat : Int) ≤ 57 := Zen u _ (by rw [← hu, hbs, hl]; simp)
    rw [Lib.atoiAll_plain c r (by omega) (by omega), ← hl, Lib.signless_short hlen]
    unfold Lib.decNat
    rw [if_neg (by rw [hl]; simp), hdec]
    rfl
  have hn := Zc2 6 u
  have hlt : (u : Int) < 10000000 := by
   have := (ZaK _ 0 _ (by omega) (Zba u)).2
   rw [← hu, bytesOf_length] at this
   have h3 : (10 : Int) ^ s.size ≤ 10 ^ 7 := by
    have := Nat.pow_le_pow_right (n := 10) (by decide) h7
    exact_mod_cast this
   have e7 : (10 : Int) ^ 7 = 10000000 := by decide
   omega
  rw [hat]
  (try simp only [])
  rw [if_neg (by omega), if_neg (by omega), if_neg (by omega), ZaC _ (by omega), Option.bind_some, Int.toNat_natCast]
  rw [if_pos]
  rw [← hu, strOfNums_bytesOf]
 ·rw [ZdC s most (fun u h1 h2 h3 => hy ⟨u, h1, h2, h3⟩)]
  cases hat : Lib.atoiAll s.data.toList with
  | range => rfl
  | ok v =>
   have hb := Lib.atoiAll_bounds hat
   (try simp only [])
   by_cases h1 : v < 0
   ·rw [if_pos h1]
   by_cases h2 : most < v
   ·rw [if_neg h1, if_pos h2]
   by_cases h3 : 7 < s.size
   ·rw [if_neg h1, if_neg h2, if_pos h3]
   rw [if_neg h1, if_neg h2, if_neg h3, ZaC _ hb.2, Option.bind_some]
   rw [if_neg]
   intro e
   refine hy ⟨v.toNat, ?_, by omega, by omega⟩
   have : strOfNums (ZB v.toNat) = s := (toList_iff _ _).1 e
   rw [← this, bytesOf_strOfNums _ (ZbZ _)]
  | _ => rfl
theorem ZdM (s : BA) (most : Int) (h : (Z1 s most).2 = true) : 0 ≤ (Z1 s most).1 ∧ (Z1 s most).1 ≤ most ∧ ∀ c ∈ bytesOf s, 48 ≤ c ∧ c ≤ 57 := by
 unfold Z1 at *
 cases hd : ZI 0 (bytesOf s) with
 | none => rw [hd] at h; cases h
 | some n =>
  rw [hd] at h
  simp only [] at h ⊢
  split at h
  ·rename_i hq
   rw [if_pos hq]
   refine ⟨(ZaK _ 0 n (by omega) hd).1, hq.2.2.2, ?_⟩
   have key : ∀ (l : List Int) (a m : Int), ZI a l = some m → ∀ c ∈ l, 48 ≤ c ∧ c ≤ 57 := by
    intro l
    induction l with
    | nil => intro a m _ c hc; cases hc
    | cons d r ih =>
     intro a m hm c hc
     simp only [ZI] at hm
     split at hm
     ·rename_i hd
      rcases List.mem_cons.1 hc with rfl | hc
      ·exact hd
      ·exact ih _ m hm c hc
     ·cases hm
   exact key _ 0 n hd
  ·cases h
theorem ZaQ : ∀ (l : List Int) (cur : List Int), (∀ x ∈ l, 0 ≤ x ∧ x < 256) → (∀ x ∈ cur, 0 ≤ x ∧ x < 256) → ∀ a ∈ Zt cur l, (∀ x ∈ a, 0 ≤ x ∧ x < 256) ∧ a.length ≤ cur.length + l.length
 | [], cur, _, hc, a, ha => by
  rw [Zt, List.mem_singleton] at ha
  subst ha; exact ⟨hc, by simp⟩
 | [c], cur, hl, hc, a, ha => by
  rw [Zt, List.mem_singleton] at ha
  subst ha
  refine ⟨fun x hx => ?_, by simp⟩
  rcases List.mem_append.1 hx with h | h
  ·exact hc x h
  ·exact hl x h
 | c :: d :: r, cur, hl, hc, a, ha => by
  rw [Zt] at ha
  split at ha
  ·rcases List.mem_cons.1 ha with h | h
   ·subst h; exact ⟨hc, by omega⟩
   ·have := ZaQ r [] (fun x hx => hl x (by simp [hx])) (by simp) a h
    refine ⟨this.1, ?_⟩
    have h2 := this.2
    simp only [List.length_nil, List.length_cons] at h2 ⊢
    omega
  ·have := ZaQ (d :: r) (cur ++ [c]) (fun x hx => hl x (List.mem_cons_of_mem _ hx)) (fun x hx => by
    rcases List.mem_append.1 hx with h | h
    ·exact hc x h
    ·rw [List.mem_singleton] at h; subst h; exact hl x (by simp)) a ha
   refine ⟨this.1, ?_⟩
   have h2 := this.2
   simp only [List.length_append, List.length_cons, List.length_nil] at h2 ⊢
   omega
theorem Zbw {l : List Int} (hl : ∀ x ∈ l, 0 ≤ x ∧ x < 256) : ∀ s ∈ Ze l, s.size ≤ l.length := by
 intro s hs
 obtain ⟨a, ha, rfl⟩ := List.mem_map.1 hs
 have := (ZaQ l [] hl (by simp) a ha).2
 rw [strOfNums_size]; simpa using this
theorem ZbG : ∀ (l cur : List Int), 1 ≤ (Zt cur l).length ∧ (Zt cur l).length ≤ l.length + 1
 | [], cur => by simp [Zt]
 | [c], cur => by simp [Zt]
 | c :: d :: r, cur => by
  rw [Zt]
  split
  ·have := ZbG r []
   simp only [List.length_cons]; omega
  ·have := ZbG (d :: r) (cur ++ [c])
   simp only [List.length_cons] at this ⊢; omega
theorem Zb0 (l : List Int) : 1 ≤ (Ze l).length ∧ (Ze l).length ≤ l.length + 1 := by
 unfold Ze; rw [List.length_map]; exact ZbG l []
theorem Zd3 : ∀ (t : List Int) (i : Nat), 0 ≤ ZA i t → (i : Int) + 4 ≤ ZA i t ∧ ZA i t ≤ i + t.length
 | [], i, h => by simp [ZA] at h
 | c :: r, i, h => by
  rw [ZA] at h ⊢
  by_cases q : (c :: r).take 4 = [13, 10, 13, 10]
  ·rw [if_pos q]
   have := congrArg List.length q
   simp at this
   simp only [List.length_cons]
   omega
  ·rw [if_neg q] at h ⊢
   have := Zd3 r (i + 1) h
   simp only [List.length_cons]
   omega
theorem Zdm (l : List Int) (hl : l.length ≤ 1048576) (hr : ∀ x ∈ l, 0 ≤ x ∧ x < 256) : strings_Split.f (strOfNums l) (⟨#[13, 10]⟩ : BA) = some (Ze l) := by
 unfold strings_Split.f
 rw [if_pos ⟨by rw [strOfNums_size]; omega, by decide⟩, ZcC _ _ (Nat.le_refl _), bytesOf_strOfNums l hr]
theorem Z6 (s : BA) (l : List UInt8) : s.toList = l ↔ bytesOf s = l.map fun b => (b.toNat : Int) := by
 rw [Lib.toList_data]
 unfold bytesOf
 constructor
 ·intro h; rw [h]
 ·intro h; exact List.map_inj_right (fun x y hxy => UInt8.toNat_inj.mp (by omega)) |>.mp h
theorem ZaY : ∀ (l : List UInt8) (c : UInt8), 0 ≤ Lib.indexByte l c ↔ c ∈ l
 | [], c => by simp [Lib.indexByte]
 | b :: l, c => by
  have ih := ZaY l c
  have hg := Lib.indexByte_ge l c
  simp only [Lib.indexByte]
  by_cases h : b = c
  ·subst h; simp
  ·have h' : (b == c) = false := by simpa using h
   have h2 : ¬ c = b := fun e => h e.symm
   rw [h']
   simp only [Bool.false_eq_true, if_false, List.mem_cons, h2, false_or, ← ih]
   by_cases q : Lib.indexByte l c = -1
   ·simp [q]
   ·have : (Lib.indexByte l c == -1) = false := by simpa using q
    rw [this]; simp only [Bool.false_eq_true, if_false]; omega
theorem Zd4 (s : BA) (c : UInt8) : c ∈ s.data.toList ↔ (c.toNat : Int) ∈ bytesOf s := by
 unfold bytesOf
 rw [List.mem_map]
 constructor
 ·intro h; exact ⟨c, h, rfl⟩
 ·rintro ⟨d, hd, he⟩
  have : d = c := UInt8.toNat_inj.mp (by omega)
  rw [← this]; exact hd
def tkC (c : Int) (r : List Int) : List Int := r.takeWhile fun x => decide (x ≠ c)
def drC (c : Int) (r : List Int) : List Int := r.dropWhile fun x => decide (x ≠ c)
theorem ZcO (c : Int) (r : List Int) : tkC c r ++ drC c r = r := List.takeWhile_append_dropWhile
theorem Zbp (c : Int) (r : List Int) : (tkC c r).length + (drC c r).length = r.length := by rw [← List.length_append, ZcO]
theorem Zbb (c : UInt8) : ∀ l : List UInt8, Lib.index l [c] = if (l.dropWhile fun x => decide (x ≠ c)) = [] then -1 else ((l.takeWhile fun x => decide (x ≠ c)).length : Int)
 | [] => rfl
 | b :: l => by
  have ih := Zbb c l
  rw [Lib.index]
  simp only [List.isPrefixOf, Bool.and_true]
  by_cases q : b = c
  ·subst q
   simp
  ·have q1 : ¬ c = b := fun e => q e.symm
   have q2 : (c == b) = false := by simpa using q1
   rw [q2, if_neg (by simp), ih, List.dropWhile_cons, List.takeWhile_cons]
   simp only [ne_eq, q, not_false_iff, decide_true, if_true]
   by_cases q3 : (l.dropWhile fun x => decide (¬ x = c)) = []
   ·simp only [ne_eq, q3, if_true]; rfl
   ·simp only [ne_eq, if_neg q3]
    rw [if_neg (by simp only [beq_iff_eq]; omega)]
    simp
theorem Zc5 (c : UInt8) (l : List UInt8) : Lib.cut l [c] = (l.takeWhile (fun x => decide (x ≠ c)), (l.dropWhile fun x => decide (x ≠ c)).tail, decide ((l.dropWhile fun x => decide (x ≠ c)) ≠ [])) := by
 have ha := List.takeWhile_append_dropWhile (p := fun x => decide (x ≠ c)) (l := l)
 unfold Lib.cut
 rw [Zbb]
 generalize (l.takeWhile fun x => decide (x ≠ c)) = t at ha
 generalize (l.dropWhile fun x => decide (x ≠ c)) = d at ha
 by_cases q : d = []
 ·subst q
  rw [List.append_nil] at ha
  rw [if_pos rfl, if_neg (by decide), ha]
  rfl
 ·rw [if_neg q, if_pos (by omega)]
  subst ha
  simp only [Int.toNat_natCast, List.length_cons, List.length_nil, List.take_left, Nat.zero_add, decide_eq_true q, ne_eq, not_false_iff]
  cases d with
  | nil => exact absurd rfl q
  | cons x u =>
   refine Prod.ext rfl (Prod.ext ?_ rfl)
   show List.drop (t.length + 1) (t ++ x :: u) = u
   rw [show t ++ x :: u = (t ++ [x]) ++ u by simp]
   exact List.drop_left' (by simp)
theorem Zd5 (c : UInt8) (l : List UInt8) : (l.takeWhile fun x => decide (x ≠ c)).map (fun b => (b.toNat : Int)) = tkC (c.toNat : Int) (l.map fun b => (b.toNat : Int)) := by
 unfold tkC
 rw [List.takeWhile_map]
 congr 2
 funext x
 simp only [Function.comp, decide_eq_decide]
 constructor
 ·intro h e; exact h (UInt8.toNat_inj.1 (by omega))
 ·intro h e; exact h (by rw [e])
theorem Zc6 (c : UInt8) (l : List UInt8) : (l.dropWhile fun x => decide (x ≠ c)).map (fun b => (b.toNat : Int)) = drC (c.toNat : Int) (l.map fun b => (b.toNat : Int)) := by
 unfold drC
 rw [List.dropWhile_map]
 congr 2
 funext x
 simp only [Function.comp, decide_eq_decide]
 constructor
 ·intro h e; exact h (UInt8.toNat_inj.1 (by omega))
 ·intro h e; exact h (by rw [e])
theorem ZeC (s : BA) (c : UInt8) (h : s.size < 4294967281) : ∃ a b, strings_Cut.f s (⟨#[c]⟩ : BA) = some (a, b, decide (drC (c.toNat : Int) (bytesOf s) ≠ [])) ∧ bytesOf a = tkC (c.toNat : Int) (bytesOf s) ∧ bytesOf b = (drC (c.toNat : Int) (bytesOf s)).tail := by
 have hb : bytesOf s = s.data.toList.map fun b => (b.toNat : Int) := rfl
 refine ⟨⟨(Lib.cut s.data.toList [c]).1.toArray⟩, ⟨(Lib.cut s.data.toList [c]).2.1.toArray⟩, ?_, ?_, ?_⟩
 ·unfold strings_Cut.f
  rw [if_pos h, show ((⟨#[c]⟩ : BA).data.toList) = [c] from rfl, Zc5]
  rw [hb, ← Zc6]
  simp only [ne_eq, List.map_eq_nil_iff]
 ·rw [bytesOf_mk, Zc5, Zd5, hb]
 ·rw [bytesOf_mk, Zc5]
  show (List.dropWhile _ _).tail.map _ = _
  rw [List.map_tail, Zc6]
  rfl
def ZJ (c : Int) : List Int → List Int → List (List Int)
 | cur, [] => [cur]
 | cur, x :: r => if x = c then cur :: ZJ c [] r else ZJ c (cur ++ [x]) r
def Zj (c : Int) (l : List Int) : List BA := (ZJ c [] l).map strOfNums
theorem Zc7 (c : Int) : ∀ (l cur : List Int), ZJ c cur l = if drC c l = [] then [cur ++ l] else (cur ++ tkC c l) :: ZJ c [] (drC c l).tail
 | [], cur => by simp [ZJ, drC]
 | x :: r, cur => by
  by_cases q : x = c
  ·rw [ZJ, if_pos q]
   have e1 : drC c (x :: r) = x :: r := by simp [drC, q]
   have e2 : tkC c (x :: r) = [] := by simp [tkC, q]
   rw [e1, e2, if_neg (by simp)]; simp
  ·have e1 : drC c (x :: r) = drC c r := by simp [drC, q]
   have e2 : tkC c (x :: r) = x :: tkC c r := by simp [tkC, q]
   rw [ZJ, if_neg q, Zc7 c r (cur ++ [x]), e1, e2]
   by_cases q1 : drC c r = []
   ·rw [if_pos q1, if_pos q1]; simp
   ·rw [if_neg q1, if_neg q1]; simp
theorem Zd6 (c : UInt8) (s : BA) : Lib.indexB s ⟨#[c]⟩ = if drC (c.toNat : Int) (bytesOf s) = [] then -1 else ((tkC (c.toNat : Int) (bytesOf s)).length : Int) := by
 show Lib.index s.data.toList [c] = _
 rw [Zbb]
 have hb : bytesOf s = s.data.toList.map fun b => (b.toNat : Int) := rfl
 rw [hb, ← Zc6, ← Zd5]
 simp only [List.map_eq_nil_iff, List.length_map]
theorem ZcD (c : UInt8) : ∀ (n : Nat) (s : BA), s.size ≤ n → Lib.splitB ⟨#[c]⟩ 0 (Lib.countB s ⟨#[c]⟩) s = Zj (c.toNat : Int) (bytesOf s) := by
 intro n
 induction n with
 | zero =>
  intro s h
  have h0 : bytesOf s = [] := List.eq_nil_of_length_eq_zero (by rw [bytesOf_length]; omega)
  have hi : Lib.indexB s ⟨#[c]⟩ = -1 := by rw [Zd6, h0]; rfl
  rw [Lib.splitB_miss _ _ _ _ hi]
  unfold Zj
  rw [h0]
  have : s = strOfNums [] := by rw [← h0, strOfNums_bytesOf]
  rw [this]; rfl
 | succ n ih =>
  intro s h
  have hi := Zd6 c s
  unfold Zj
  rw [Zc7]
  by_cases q : drC (c.toNat : Int) (bytesOf s) = []
  ·rw [if_pos q] at hi
   rw [Lib.splitB_miss _ _ _ _ hi, if_pos q]
   simp [strOfNums_bytesOf]
  ·rw [if_neg q] at hi
   have h1 : 1 ≤ (⟨#[c]⟩ : BA).size := Nat.le_refl 1
   rw [if_neg q, Lib.countB_hit s ⟨#[c]⟩ _ h1 hi, Nat.add_comm, Lib.splitB_hit _ _ _ _ _ hi]
   have hl := Zbp (c.toNat : Int) (bytesOf s)
   rw [bytesOf_length] at hl
   have hd : 0 < (drC (c.toNat : Int) (bytesOf s)).length := List.length_pos_iff.2 q
   have e1 : bytesOf (s.extract ((tkC (c.toNat : Int) (bytesOf s)).length + (⟨#[c]⟩ : BA).size) s.size) = (drC (c.toNat : Int) (bytesOf s)).tail := by
    rw [bytesOf_extract, List.take_of_length_le (by rw [bytesOf_length]; exact Nat.le_refl _)]
    have h2 := @List.drop_left _ (tkC (c.toNat : Int) (bytesOf s)) (drC (c.toNat : Int) (bytesOf s))
    rw [ZcO] at h2
    show (bytesOf s).drop ((tkC (c.toNat : Int) (bytesOf s)).length + 1) = _
    rw [← List.drop_drop, h2, List.drop_one]
   have e2 : s.extract 0 ((tkC (c.toNat : Int) (bytesOf s)).length + 0) = strOfNums (tkC (c.toNat : Int) (bytesOf s)) := by
    apply bytesOf_inj
    have h2 := @List.take_left _ (tkC (c.toNat : Int) (bytesOf s)) (drC (c.toNat : Int) (bytesOf s))
    rw [ZcO] at h2
    rw [bytesOf_extract, Nat.add_zero, h2, List.drop_zero, bytesOf_strOfNums]
    intro x hx
    exact bytesOf_range s x (by rw [← ZcO (c.toNat : Int) (bytesOf s)]; exact List.mem_append_left _ hx)
   have hsz : (s.extract ((tkC (c.toNat : Int) (bytesOf s)).length + (⟨#[c]⟩ : BA).size) s.size).size ≤ n := by
    rw [size_len, e1, List.length_tail]; omega
   rw [ih _ hsz, e1, e2]
   simp [Zj]
theorem Zb1 (c : Int) : impl_isLarge.f c = some (Zy c) := by
 unfold impl_isLarge.f Zy; split <;> simp [*] <;> omega
def ZaG (c : Int) : Int := if Zy c = true then c + 32 else c
def ZV (l : List Int) : List Int := l.map ZaG
theorem ZdN {c : Int} (h : 0 ≤ c ∧ c < 256) : 0 ≤ ZaG c ∧ ZaG c < 256 := by
 unfold ZaG Zy
 split
 ·rename_i q
  simp at q
  omega
 ·exact h
theorem Zeo {c : Int} (h : 0 ≤ c ∧ c < 256) (q : Zy c = true) : (c + 32) % 256 = ZaG c := by
 have := ZdN h
 unfold ZaG at this ⊢
 rw [if_pos q] at this ⊢
 omega
def ZF (s : BA) : BA := strOfNums (ZV (bytesOf s))
theorem ZcE (l : List Int) (hl : l.length ≤ 1048576) (hr : ∀ x ∈ l, 0 ≤ x ∧ x < 256) : ∀ n i, l.length - i = n → i ≤ l.length → Ev (fun k => impl_Lower.l0 k ((ZV l).take i ++ l.drop i) (l.length : Int) (i : Int)) (strOfNums (ZV l)) := by
 intro n
 induction n with
 | zero =>
  intro i hn hi
  have h0 : i = l.length := by omega
  subst h0
  apply ev_succ; simp only [impl_Lower.l0, if_neg (show ¬ ((l.length : Nat) : Int) < (l.length : Int) by omega)]
  simpa [ZV, List.take_of_length_le] using Ev.now _
 | succ n ih =>
  intro i hn hi
  have hlt : i < l.length := by omega
  have hll : (ZV l).length = l.length := by simp [ZV]
  have htl : ((ZV l).take i).length = i := by rw [List.length_take]; omega
  have hlen : ((ZV l).take i ++ l.drop i).length = l.length := by rw [List.length_append, htl, List.length_drop]; omega
  have hw1 : wrap64 ((i : Int) + 1) = ((i + 1 : Nat) : Int) := by rw [wrap_id (by omega) (by omega)]; rfl
  have hrd : rd ((ZV l).take i ++ l.drop i) (i : Int) = l[i] := by
   rw [rd, Int.toNat_natCast, List.getD_eq_getElem?_getD, List.getElem?_append_right (by omega), htl, List.getElem?_drop]
   simp [hlt]
  have hc := hr l[i] (List.getElem_mem _)
  have step : (ZV l).take (i + 1) ++ l.drop (i + 1) = (ZV l).take i ++ ZaG l[i] :: l.drop (i + 1) := by
   rw [List.take_succ_eq_append_getElem (by omega)]
   simp [ZV]
  have hd : l.drop i = l[i] :: l.drop (i + 1) := List.drop_eq_getElem_cons hlt
  have ih' := ih (i + 1) (by omega) (by omega)
  rw [step] at ih'
  apply ev_succ
  simp only [impl_Lower.l0, if_pos (show (i : Int) < (l.length : Int) by omega), if_pos (show (0 : Int) ≤ i by omega), hlen, hrd, Zb1, Option.bind_some, hw1]
  refine ev_ite (fun q => ?_) (fun q => ?_)
  ·rw [Int.toNat_natCast, Zeo hc q, List.set_append_right _ _ (by omega), htl, Nat.sub_self, hd, List.set_cons_zero]
   exact ih'
  ·rw [show ZaG l[i] = l[i] by unfold ZaG; rw [if_neg q], ← hd] at ih'
   exact ih'
theorem ZaZ (s : BA) (hs : s.size ≤ 1048576) : Ev (fun k => impl_Lower.f k s) (ZF s) := by
 unfold impl_Lower.f
 simp only [if_pos (show s.size < 140737488355328 by omega), Option.bind_some]
 have := ZcE (bytesOf s) (by rw [bytesOf_length]; exact hs) (bytesOf_range s) _ 0 rfl (Nat.zero_le _)
 simpa [ZF] using this
def Zn (c : Int) : Bool := decide (c = 32) || decide (c = 9)
def Zl (l : List Int) : List Int := l.dropWhile Zn
def Zi (l : List Int) : List Int := (l.reverse.dropWhile Zn).reverse
theorem Zb2 (c : Int) (r : List Int) : Zi (c :: r) = if Zi r = [] then (if Zn c = true then [] else [c]) else c :: Zi r := by
 unfold Zi
 rw [List.reverse_cons, List.dropWhile_append]
 by_cases h : r.reverse.dropWhile Zn = []
 ·rw [h]
  by_cases q : Zn c = true
  ·simp [q]
  ·simp [q]
 ·have : (r.reverse.dropWhile Zn).isEmpty = false := by simpa using h
  rw [this]
  simp [h]
theorem Zct : ∀ l : List Int, Zl (Zi l) = Zi (Zl l)
 | [] => rfl
 | c :: r => by
  have ih := Zct r
  rw [Zb2]
  by_cases q : Zn c = true
  ·have e : Zl (c :: r) = Zl r := by unfold Zl; rw [List.dropWhile_cons_of_pos q]
   rw [e, ← ih]
   by_cases h : Zi r = []
   ·rw [if_pos h, if_pos q, h]
   ·rw [if_neg h]
    unfold Zl; rw [List.dropWhile_cons_of_pos q]
  ·have e : ∀ x : List Int, Zl (c :: x) = c :: x := fun x => by unfold Zl; rw [List.dropWhile_cons_of_neg q]
   rw [e, Zb2]
   by_cases h : Zi r = []
   ·rw [if_pos h, if_neg q]; exact e []
   ·rw [if_neg h]; exact e _
def Z2 (s : BA) : BA := strOfNums (Zl (Zi (bytesOf s)))
theorem Zep {l : List Int} {x : Int} (h : x ∈ Zl (Zi l)) : x ∈ l := by
 unfold Zl Zi at h
 have h1 := (List.dropWhile_sublist _).subset h
 have h2 := (List.dropWhile_sublist _).subset (List.mem_reverse.1 h1)
 exact List.mem_reverse.1 h2
theorem Zb3 (s : BA) : bytesOf (Z2 s) = Zl (Zi (bytesOf s)) := bytesOf_strOfNums _ (fun x hx => bytesOf_range s x (Zep hx))
theorem Zcu (s : BA) : (Z2 s).size ≤ s.size := by
 rw [size_len, Zb3, size_len]
 unfold Zl Zi
 have h1 := (List.dropWhile_sublist Zn (l := ((bytesOf s).reverse.dropWhile Zn).reverse)).length_le
 have h2 := (List.dropWhile_sublist Zn (l := (bytesOf s).reverse)).length_le
 simp only [List.length_reverse] at h1 h2
 omega
theorem Zaf {α β : Type} (f : α → β) (p : β → Bool) : ∀ l : List α, (l.map f).dropWhile p = (l.dropWhile (fun x => p (f x))).map f
 | [] => rfl
 | x :: r => by
  rw [List.map_cons]
  by_cases q : p (f x) = true
  ·rw [List.dropWhile_cons_of_pos q, List.dropWhile_cons_of_pos (by exact q), Zaf f p r]
  ·rw [List.dropWhile_cons_of_neg q, List.dropWhile_cons_of_neg (by exact q), List.map_cons]
theorem Zeq (b : UInt8) : ([32, 9] : List UInt8).contains b = Zn (b.toNat : Int) := by
 have H : ∀ n : Fin 256, ([32, 9] : List UInt8).contains (UInt8.ofNat n.val) = Zn (n.val : Int) := by decide +kernel
 have := H ⟨b.toNat, b.toNat_lt⟩
 simpa using this
theorem Zbc (s : BA) (hs : s.size ≤ 140737488351232) : impl_Trim.f s = some (Z2 s) := by
 unfold impl_Trim.f strings_Trim.f
 rw [if_pos ⟨by omega, by decide, by decide⟩]
 simp only [Option.bind_some]
 congr 1
 apply bytesOf_inj
 rw [Zb3, bytesOf_mk]
 unfold Lib.trimS Lib.trimLeftS Lib.trimRightS Zl Zi bytesOf
 have e : (fun x : UInt8 => ([32, 9] : List UInt8).contains x) = fun x => Zn (x.toNat : Int) := funext Zeq
 show List.map _ (List.dropWhile (fun x => ([32, 9] : List UInt8).contains x) (List.dropWhile (fun x => ([32, 9] : List UInt8).contains x) s.data.toList.reverse).reverse) = _
 rw [e, ← List.map_reverse, Zaf, ← List.map_reverse, Zaf]
theorem Zb4 (c : Int) : spec_l1Blank.f c = some (Zn c) := by
 unfold spec_l1Blank.f Zn
 by_cases h : c = 32
 ·rw [if_pos h]; simp [h]
 ·rw [if_neg h]; simp [h]; rfl
theorem Zdn {x : BA} {c : Int} {r : List Int} (h : bytesOf x = c :: r) : bt x 0 = c ∧ bytesOf (x.extract 1 x.size) = r ∧ x.size = r.length + 1 := by
 have hd : (bytesOf x).drop 0 = c :: r := by simpa using h
 obtain ⟨h1, h2, h3⟩ := bt_drop hd
 refine ⟨by simpa using h1, ?_, by rw [size_len, h]; rfl⟩
 rw [bytesOf_extract, List.take_of_length_le (by rw [← size_len]; exact Nat.le_refl _)]
 exact h3
theorem Zc8 {x : BA} {c : Int} {r : List Int} (h : bytesOf x = r ++ [c]) : bt x (r.length : Int) = c ∧ bytesOf (x.extract 0 r.length) = r ∧ x.size = r.length + 1 := by
 have hd : (bytesOf x).drop r.length = [c] := by rw [h]; simp
 obtain ⟨h1, h2, h3⟩ := bt_drop hd
 refine ⟨h1, ?_, by rw [size_len, h]; simp⟩
 rw [bytesOf_extract, h]
 simp
theorem Zaw : ∀ (l : List Int) (x : BA), bytesOf x = l.reverse → x.size ≤ 1048576 → Ev (fun k => spec_Trim.l1 k x) (strOfNums (Zi (bytesOf x)))
 | [], x, h, hs => by
  have h0 : x.size = 0 := by rw [size_len, h]; rfl
  apply ev_succ; simp only [spec_Trim.l1, if_neg (show ¬ (x.size : Int) > 0 by omega)]
  rw [h]
  have : x = strOfNums (Zi ([] : List Int).reverse) := by rw [← strOfNums_bytesOf x, h]; rfl
  rw [← this]; exact Ev.now _
 | c :: r, x, h, hs => by
  rw [List.reverse_cons] at h
  obtain ⟨h1, h2, h3⟩ := Zc8 h
  rw [List.length_reverse] at h1 h2 h3
  apply ev_succ
  simp only [spec_Trim.l1, if_pos (show (x.size : Int) > 0 by omega), show wrap64 ((x.size : Int) - 1) = (r.length : Int) from by rw [wrap_id (by omega) (by omega)]; omega, if_pos (show (0 : Int) ≤ (r.length : Int) by omega), if_pos (show (r.length : Int) < (x.size : Int) by omega), if_pos (show (r.length : Int) ≤ (x.size : Int) by omega), h1, Zb4, Option.bind_some, Int.toNat_natCast]
  refine ev_iteB (fun q => ?_) (fun q => ?_)
  ·have ih := Zaw r (x.extract 0 r.length) h2 (by rw [size_len, h2, List.length_reverse]; omega)
   have e : Zi (bytesOf x) = Zi (bytesOf (x.extract 0 r.length)) := by
    rw [h, h2]
    unfold Zi
    rw [List.reverse_append, List.reverse_reverse]
    show (List.dropWhile Zn (c :: r)).reverse = _
    rw [List.dropWhile_cons_of_pos q]
   rw [e]; exact ih
  ·have e : Zi (bytesOf x) = bytesOf x := by
    rw [h]
    unfold Zi
    rw [List.reverse_append, List.reverse_reverse]
    show (List.dropWhile Zn (c :: r)).reverse = _
    rw [List.dropWhile_cons_of_neg (by rw [q]; simp), List.reverse_cons]
   rw [e, strOfNums_bytesOf]; exact Ev.now _
theorem Zbd : ∀ (l : List Int) (x : BA), bytesOf x = l → x.size ≤ 1048576 → Ev (fun k => spec_Trim.l0 k x) (strOfNums (Zi (Zl (bytesOf x))))
 | [], x, h, hs => by
  have h0 : x.size = 0 := by rw [size_len, h]; rfl
  apply ev_succ; simp only [spec_Trim.l0, if_neg (show ¬ (x.size : Int) > 0 by omega)]
  apply ev_succ; simp only [spec_Trim.j1]
  have := Zaw [] x h hs
  rwa [show Zl (bytesOf x) = bytesOf x by rw [h]; rfl]
 | c :: r, x, h, hs => by
  obtain ⟨h1, h2, h3⟩ := Zdn h
  apply ev_succ
  simp only [spec_Trim.l0, if_pos (show (x.size : Int) > 0 by omega), if_pos (show (0 : Int) < (x.size : Int) by omega), if_pos (show (1 : Int) ≤ (x.size : Int) by omega), h1, Zb4, Option.bind_some]
  refine ev_iteB (fun q => ?_) (fun q => ?_)
  ·have ih := Zbd r (x.extract 1 x.size) h2 (by rw [size_len, h2]; omega)
   have e : Zl (bytesOf x) = Zl (bytesOf (x.extract 1 x.size)) := by
    rw [h, h2]
    unfold Zl
    rw [List.dropWhile_cons_of_pos q]
   rw [e]; exact ih
  ·have e : Zl (bytesOf x) = bytesOf x := by
    rw [h]
    unfold Zl
    rw [List.dropWhile_cons_of_neg (by rw [q]; simp)]
   rw [e]
   apply ev_succ; simp only [spec_Trim.j1]
   exact Zaw (bytesOf x).reverse x (by rw [List.reverse_reverse]) hs
theorem Zc9 (s : BA) (hs : s.size ≤ 1048576) : Ev (fun k => spec_Trim.f k s) (Z2 s) := by
 unfold spec_Trim.f Z2
 rw [Zct]
 exact Zbd _ s rfl hs
def Z3 (s : BA) (a b : Int) : Bool := decide (a ≤ (s.size : Int)) && decide ((s.size : Int) ≤ b)
theorem ZdO (c : Int) : impl_isSmall.f c = some (Za4 c) := by
 unfold impl_isSmall.f Za4; split <;> simp [*] <;> omega
theorem ZdP (c : Int) (h : wrap64 c = c) : spec_l1Small.f c = some (Za4 c) := by
 unfold spec_l1Small.f; rw [h, Zx]; rfl
def snC (first : Bool) (c : Int) : Bool := Za4 c || (!first && (ZY c || decide (c = 45)))
def snB : Nat → List Int → Bool
 | _, [] => true
 | i, c :: r => snC (i == 0) c && snB (i + 1) r
def Z7 (s : BA) : Bool := snB 0 (bytesOf s) && Z3 s 1 20
theorem Zan (s : BA) (hs : s.size ≤ 140737488351232) : Ev (fun k => impl_SmallName.f k s) (Z7 s) := by
 refine str_loop_st s (fun i (_ : Unit) k => impl_SmallName.l0 k s (i : Int)) (fun i _ r => snB i r && Z3 s 1 20) (fun _ _ _ => True) ?_ ?_ hs 0 () trivial
 ·intro i _ _ hi
  apply ev_succ; simp only [impl_SmallName.l0, if_neg (show ¬ (i : Int) < s.size by omega), ZcM, Option.bind_some]; exact Ev.now _
 ·intro i _ c r _ h hb hi hw hw1 ih
  replace ih := ih () trivial
  apply ev_succ
  simp only [impl_SmallName.l0, if_pos (show (i : Int) < s.size by omega), if_pos (show (0 : Int) ≤ i by omega), hb, ZdO, ZbR, Option.bind_some, hw1]
  refine ev_iteB (fun q => ?_) (fun q => ev_ite (fun q0 => ?_) (fun q0 => ?_))
  ·simpa [snB, snC, q] using ih
  ·have : i = 0 := by omega
   subst this; simpa [snB, snC, q] using Ev.now false
  ·have hi0 : (i == 0) = false := by simp; omega
   refine ev_iteB (fun q1 => ?_) (fun q1 => ev_ite (fun q2 => ?_) (fun q2 => ?_))
   ·simpa [snB, snC, q, hi0, q1] using ih
   ·subst q2; simpa [snB, snC, q, hi0, q1] using ih
   ·simpa [snB, snC, q, hi0, q1, q2] using Ev.now false
theorem Zbr (s : BA) (hs : s.size ≤ 140737488351232) : Ev (fun k => spec_SmallName.f k s) (Z7 s) := by
 refine str_loop_st s (fun i (_ : Unit) k => spec_SmallName.l0 k s (i : Int)) (fun i _ r => snB i r && Z3 s 1 20) (fun _ _ _ => True) ?_ ?_ hs 0 () trivial
 ·intro i _ _ hi
  apply ev_succ; simp only [spec_SmallName.l0, if_neg (show ¬ (i : Int) < s.size by omega), Zx, Option.bind_some]; exact Ev.now _
 ·intro i _ c r _ h hb hi hw hw1 ih
  replace ih := ih () trivial
  apply ev_succ
  simp only [spec_SmallName.l0, if_pos (show (i : Int) < s.size by omega), if_pos (show (0 : Int) ≤ i by omega), hb, ZdP c hw, ZbQ c hw, Option.bind_some, hw1]
  refine ev_iteB (fun q => ?_) (fun q => ev_ite (fun q0 => ?_) (fun q0 => ?_))
  ·simpa [snB, snC, q] using ih
  ·have : i = 0 := by omega
   subst this; simpa [snB, snC, q] using Ev.now false
  ·have hi0 : (i == 0) = false := by simp; omega
   refine ev_iteB (fun q1 => ?_) (fun q1 => ev_ite (fun q2 => ?_) (fun q2 => ?_))
   ·simpa [snB, snC, q, hi0, q1] using ih
   ·subst q2; simpa [snB, snC, q, hi0, q1] using ih
   ·simpa [snB, snC, q, hi0, q1, q2] using Ev.now false
theorem ZeD (x y : S113) : x = y ↔ x.f0 = y.f0 ∧ x.f1 = y.f1 := by cases x; cases y; simp
theorem ZdQ (c : Int) : impl_isPlain.f c = some (ZL c) := by
 unfold impl_isPlain.f ZL; split <;> simp [*] <;> omega
def ZN (l : List Int) : Bool := l.all ZL
theorem Za0 (s : BA) (hs : s.size ≤ 140737488351232) : Ev (fun k => impl_Plain.f k s) (ZN (bytesOf s)) := by
 refine str_loop s (fun i k => impl_Plain.l0 k s (i : Int)) ZN ?_ ?_ hs 0
 ·intro i hi
  apply ev_succ; simp only [impl_Plain.l0, if_neg (show ¬ (i : Int) < s.size by omega)]; exact Ev.now _
 ·intro i c r h hb hi hw hw1 ih
  apply ev_succ
  simp only [impl_Plain.l0, if_pos (show (i : Int) < s.size by omega), if_pos (show (0 : Int) ≤ i by omega), hb, ZdQ, Option.bind_some, hw1]
  refine ev_ite (fun h => ?_) (fun h => ?_)
  ·simpa [ZN, h] using ih
  ·simpa [ZN, h] using Ev.now _
theorem ZcF (s : BA) (hs : s.size ≤ 140737488351232) : Ev (fun k => spec_Plain.f k s) (ZN (bytesOf s)) := by
 refine str_loop s (fun i k => spec_Plain.l0 k s (i : Int)) ZN ?_ ?_ hs 0
 ·intro i hi
  apply ev_succ; simp only [spec_Plain.l0, if_neg (show ¬ (i : Int) < s.size by omega)]; exact Ev.now _
 ·intro i c r h hb hi hw hw1 ih
  apply ev_succ
  simp only [spec_Plain.l0, if_pos (show (i : Int) < s.size by omega), if_pos (show (0 : Int) ≤ i by omega), hb, hw, Zx, Option.bind_some, hw1]
  refine ev_ite (fun h => ?_) (fun h => ?_)
  ·have : ZL c = true := h
   simpa [ZN, this] using ih
  ·have : ZL c = false := by simpa [ZL] using h
   simpa [ZN, this] using Ev.now _
def Z9 (s : BA) : Bool := decide ((s.size : Int) ≤ 60) && (ZN (bytesOf s) && ((Z2 s).toList == s.toList))
def ZO (s : BA) : Bool := decide (¬ s.toList = ([99, 111, 110, 116, 101, 110, 116, 45, 108, 101, 110, 103, 116, 104] : List UInt8)) && decide (¬ s.toList = ([116, 114, 97, 110, 115, 102, 101, 114, 45, 101, 110, 99, 111, 100, 105, 110, 103] : List UInt8))
def Zu (h : S113) : Bool := Z7 h.f0 && (Z9 h.f1 && ZO h.f0)
def Zd (l : List S113) : Bool := l.all Zu
def Zbq (l : List S113) : Bool := Zd l && decide ((l.length : Int) ≤ 8)
theorem Za1 (s : BA) (hs : s.size ≤ 1048576) : Ev (fun k => impl_valOk.f k s) (Z9 s) := by
 unfold impl_valOk.f Z9
 refine ev_ite (fun q => ?_) (fun q => ?_)
 ·rw [decide_eq_true q, Bool.true_and]
  refine Ev.bind (Za0 s (by omega)) (ev_iteB (fun q1 => ?_) (fun q1 => ?_))
  ·rw [q1, Bool.true_and]
   simp only [Zbc s (by omega), Option.bind_some]; exact Ev.now _
  ·rw [q1, Bool.false_and]; exact Ev.now _
 ·rw [decide_eq_false q, Bool.false_and]; exact Ev.now _
theorem ZcG (s : BA) (hs : s.size ≤ 1048576) : Ev (fun k => spec_l3Val.f k s) (Z9 s) := by
 unfold spec_l3Val.f Z9
 refine ev_ite (fun q => ?_) (fun q => ?_)
 ·rw [decide_eq_true q, Bool.true_and]
  refine Ev.bind (ZcF s (by omega)) (ev_iteB (fun q1 => ?_) (fun q1 => ?_))
  ·rw [q1, Bool.true_and]
   refine Ev.bind (Zc9 s hs) ?_
   exact Ev.now _
  ·rw [q1, Bool.false_and]; exact Ev.now _
 ·rw [decide_eq_false q, Bool.false_and]; exact Ev.now _
theorem Zb5 (l : List S113) (hl : l.length ≤ 9223372036854775806) (hs : ∀ x ∈ l, x.f0.size ≤ 1048576 ∧ x.f1.size ≤ 1048576) : Ev (fun k => impl_headsOk.f k l) (Zbq l) := by
 refine list_loop_st l hl (fun i (_ : Unit) k => impl_headsOk.l0 k l l (l.length : Int) (i : Int)) (fun _ _ r => Zd r && decide ((l.length : Int) ≤ 8)) (fun _ _ r => ∀ x ∈ r, x.f0.size ≤ 1048576 ∧ x.f1.size ≤ 1048576) ?_ ?_ 0 () hs
 ·intro i _ _ hi
  apply ev_succ; simp only [impl_headsOk.l0, if_neg (show ¬ (i : Int) < l.length by omega)]; exact Ev.now _
 ·intro i _ c r hr h hb hi hw1 ih
  have hbb : rd_T113 l (i : Int) = c := hb _
  obtain ⟨hc0, hc1⟩ := hr c (by simp)
  replace ih := ih () (fun x hx => hr x (by simp [hx]))
  apply ev_succ
  simp only [impl_headsOk.l0, if_pos (show (i : Int) < l.length by omega), if_pos (show (0 : Int) ≤ i by omega), hbb, hw1]
  refine Ev.bind (Zan c.f0 (by omega)) (ev_iteB (fun q1 => ?_) (fun q1 => ?_))
  ·refine Ev.bind (Za1 c.f1 (by omega)) (ev_iteB (fun q2 => ?_) (fun q2 => ?_))
   ·refine ev_ite (fun q3 => ?_) (fun q3 => ev_ite (fun q4 => ?_) (fun q4 => ?_))
    ·rw [show (Zd (c :: r) && decide ((l.length : Int) ≤ 8)) = false by simp [Zd, Zu, ZO, q3]]; exact Ev.now _
    ·rw [show (Zd (c :: r) && decide ((l.length : Int) ≤ 8)) = false by simp [Zd, Zu, ZO, q4]]; exact Ev.now _
    ·rw [show Zd (c :: r) = Zd r by simp [Zd, Zu, ZO, q1, q2, q3, q4]]; exact ih
   ·rw [show (Zd (c :: r) && decide ((l.length : Int) ≤ 8)) = false by simp [Zd, Zu, q2]]; exact Ev.now _
  ·rw [show (Zd (c :: r) && decide ((l.length : Int) ≤ 8)) = false by simp [Zd, Zu, q1]]; exact Ev.now _
theorem Zb6 (l : List S113) (hl : l.length ≤ 9223372036854775806) (hs : ∀ x ∈ l, x.f0.size ≤ 1048576 ∧ x.f1.size ≤ 1048576) : Ev (fun k => spec_l3Heads.f k l) (Zbq l) := by
 refine list_loop_st l hl (fun i (_ : Unit) k => spec_l3Heads.l0 k l (i : Int)) (fun _ _ r => Zd r && decide ((l.length : Int) ≤ 8)) (fun _ _ r => ∀ x ∈ r, x.f0.size ≤ 1048576 ∧ x.f1.size ≤ 1048576) ?_ ?_ 0 () hs
 ·intro i _ _ hi
  apply ev_succ; simp only [spec_l3Heads.l0, if_neg (show ¬ (i : Int) < l.length by omega)]; exact Ev.now _
 ·intro i _ c r hr h hb hi hw1 ih
  have hbb : rd_T113 l (i : Int) = c := hb _
  obtain ⟨hc0, hc1⟩ := hr c (by simp)
  replace ih := ih () (fun x hx => hr x (by simp [hx]))
  apply ev_succ
  simp only [spec_l3Heads.l0, if_pos (show (i : Int) < l.length by omega), if_pos (show (0 : Int) ≤ i by omega), hbb, hw1]
  refine Ev.bind (Zbr c.f0 (by omega)) (ev_iteB (fun q1 => ?_) (fun q1 => ?_))
  ·refine Ev.bind (ZcG c.f1 (by omega)) (ev_iteB (fun q2 => ?_) (fun q2 => ?_))
   ·refine ev_ite (fun q3 => ?_) (fun q3 => ev_ite (fun q4 => ?_) (fun q4 => ?_))
    ·rw [show (Zd (c :: r) && decide ((l.length : Int) ≤ 8)) = false by simp [Zd, Zu, ZO, q3]]; exact Ev.now _
    ·rw [show (Zd (c :: r) && decide ((l.length : Int) ≤ 8)) = false by simp [Zd, Zu, ZO, q4]]; exact Ev.now _
    ·rw [show Zd (c :: r) = Zd r by simp [Zd, Zu, ZO, q1, q2, q3, q4]]; exact ih
   ·rw [show (Zd (c :: r) && decide ((l.length : Int) ≤ 8)) = false by simp [Zd, Zu, q2]]; exact Ev.now _
  ·rw [show (Zd (c :: r) && decide ((l.length : Int) ≤ 8)) = false by simp [Zd, Zu, q1]]; exact Ev.now _
def Zda (m p : BA) (l : List S113) (b : BA) (m' p' : BA) (l' : List S113) (b' : BA) : Prop := m = m' ∧ p = p' ∧ l = l' ∧ b = b'
theorem ZdR (c : Int) (h : wrap64 c = c) : spec_l1Large.f c = some (Zy c) := by
 unfold spec_l1Large.f; rw [h, Zx]; rfl
def ZT (c : Int) : Bool := decide (33 ≤ c) && decide (c ≤ 126)
def Zq (p : BA) : Bool := Z3 p 1 80 && (bytesOf p).all ZT
def ZP (m : BA) : Bool := (bytesOf m).all Zy && Z3 m 1 9
def ZZ (m p : BA) (l : List S113) (b : BA) : Bool := ZP m && (Zq p && (Zbq l && decide ((b.size : Int) ≤ 200)))
theorem Zbe : ∀ l : List Int, l.all ZT = (ZN l && !decide ((32 : Int) ∈ l))
 | [] => rfl
 | c :: r => by
  have ih := Zbe r
  unfold ZN at ih ⊢
  rw [List.all_cons, List.all_cons, ih]
  have e : decide ((32 : Int) ∈ c :: r) = (decide (c = 32) || decide ((32 : Int) ∈ r)) := by
   rw [Bool.eq_iff_iff, Bool.or_eq_true, decide_eq_true_iff, decide_eq_true_iff, decide_eq_true_iff, List.mem_cons]; exact ⟨fun h => h.elim (fun e => .inl e.symm) .inr, fun h => h.elim (fun e => .inl e.symm) .inr⟩
  rw [e]
  have h1 : ZT c = (ZL c && !decide (c = 32)) := by
   unfold ZT ZL
   rw [Bool.eq_iff_iff]; simp; omega
  rw [h1]
  cases ZL c <;> cases decide (c = 32) <;> cases r.all ZL <;> cases decide ((32 : Int) ∈ r) <;> rfl
theorem ZaL (m p : BA) (hm : m.size ≤ 1048576) (hp : p.size ≤ 1048576) : Ev (fun k => impl_lineOk.f k m p) (ZP m && Zq p) := by
 unfold ZP
 rw [Bool.and_assoc]
 refine str_loop m (fun i k => impl_lineOk.l0 k m p (i : Int)) (fun r => r.all Zy && (Z3 m 1 9 && Zq p)) ?_ ?_ (by omega) 0
 ·intro i hi
  apply ev_succ
  simp only [impl_lineOk.l0, if_neg (show ¬ (i : Int) < m.size by omega), ZcM, Option.bind_some]
  rw [List.all_nil, Bool.true_and]
  refine ev_iteB (fun q => ?_) (fun q => ?_)
  ·rw [show Z3 m 1 9 = true from q, Bool.true_and]
   refine ev_iteB (fun q1 => ?_) (fun q1 => ?_)
   ·rw [show Zq p = (bytesOf p).all ZT by unfold Zq; rw [show Z3 p 1 80 = true from q1, Bool.true_and], Zbe]
    refine Ev.bind (Za0 p (by omega)) (ev_iteB (fun q2 => ?_) (fun q2 => ?_))
    ·rw [q2, Bool.true_and]
     have e0 : strings_Contains.f p (⟨#[32]⟩ : BA) = some (decide (0 ≤ Lib.indexByte p.data.toList 32)) := rfl
     have e1 : (0 ≤ Lib.indexByte p.data.toList 32) ↔ (32 : Int) ∈ bytesOf p := (ZaY _ _).trans (Zd4 p 32)
     simp only [e0, Option.bind_some, decide_eq_decide.2 e1]; exact Ev.now _
    ·rw [q2, Bool.false_and]; exact Ev.now _
   ·rw [show Zq p = false by unfold Zq; rw [show Z3 p 1 80 = false from q1, Bool.false_and]]; exact Ev.now _
  ·rw [show Z3 m 1 9 = false from q, Bool.false_and]; exact Ev.now _
 ·intro i c r h hb hi hw hw1 ih
  apply ev_succ
  simp only [impl_lineOk.l0, if_pos (show (i : Int) < m.size by omega), if_pos (show (0 : Int) ≤ i by omega), hb, Zb1, Option.bind_some, hw1]
  refine ev_iteB (fun q => ?_) (fun q => ?_)
  ·rw [List.all_cons, q, Bool.true_and]; exact ih
  ·rw [List.all_cons, q, Bool.false_and, Bool.false_and]; exact Ev.now _
theorem ZbH (m : BA) (hm : m.size ≤ 1048576) : Ev (fun k => spec_l3Method.f k m) (ZP m) := by
 refine str_loop m (fun i k => spec_l3Method.l0 k m (i : Int)) (fun r => r.all Zy && Z3 m 1 9) ?_ ?_ (by omega) 0
 ·intro i hi
  apply ev_succ
  simp only [spec_l3Method.l0, if_neg (show ¬ (i : Int) < m.size by omega), Zx, Option.bind_some]
  rw [List.all_nil, Bool.true_and]; exact Ev.now _
 ·intro i c r h hb hi hw hw1 ih
  apply ev_succ
  simp only [spec_l3Method.l0, if_pos (show (i : Int) < m.size by omega), if_pos (show (0 : Int) ≤ i by omega), hb, ZdR c hw, Option.bind_some, hw1]
  refine ev_iteB (fun q => ?_) (fun q => ?_)
  ·rw [List.all_cons, q, Bool.true_and]; exact ih
  ·rw [List.all_cons, q, Bool.false_and, Bool.false_and]; exact Ev.now _
theorem ZbI (p : BA) (hp : p.size ≤ 1048576) : Ev (fun k => spec_l3Target.f k p) (Zq p) := by
 unfold Zq
 rw [Bool.and_comm]
 refine str_loop p (fun i k => spec_l3Target.l0 k p (i : Int)) (fun r => r.all ZT && Z3 p 1 80) ?_ ?_ (by omega) 0
 ·intro i hi
  apply ev_succ
  simp only [spec_l3Target.l0, if_neg (show ¬ (i : Int) < p.size by omega), Zx, Option.bind_some]
  rw [List.all_nil, Bool.true_and]; exact Ev.now _
 ·intro i c r h hb hi hw hw1 ih
  apply ev_succ
  simp only [spec_l3Target.l0, if_pos (show (i : Int) < p.size by omega), if_pos (show (0 : Int) ≤ i by omega), hb, hw, Zx, Option.bind_some, hw1]
  refine ev_iteB (fun q => ?_) (fun q => ?_)
  ·rw [List.all_cons, show ZT c = true from q, Bool.true_and]; exact ih
  ·rw [List.all_cons, show ZT c = false from q, Bool.false_and, Bool.false_and]; exact Ev.now _
theorem ZcH (m p : BA) (l : List S113) (b : BA) (hm : m.size ≤ 1048576) (hp : p.size ≤ 1048576) (hl : l.length ≤ 9223372036854775806) (hs : ∀ x ∈ l, x.f0.size ≤ 1048576 ∧ x.f1.size ≤ 1048576) : Ev (fun k => impl_ReqOk.f k m p l b) (ZZ m p l b) := by
 unfold impl_ReqOk.f ZZ
 rw [← Bool.and_assoc]
 refine Ev.bind (ZaL m p hm hp) (ev_iteB (fun q => ?_) (fun q => ?_))
 ·rw [q, Bool.true_and]
  refine Ev.bind (Zb5 l hl hs) (ev_iteB (fun q1 => ?_) (fun q1 => ?_))
  ·rw [q1, Bool.true_and]; exact Ev.now _
  ·rw [q1, Bool.false_and]; exact Ev.now _
 ·rw [q, Bool.false_and]; exact Ev.now _
theorem ZcI (m p : BA) (l : List S113) (b : BA) (hm : m.size ≤ 1048576) (hp : p.size ≤ 1048576) (hl : l.length ≤ 9223372036854775806) (hs : ∀ x ∈ l, x.f0.size ≤ 1048576 ∧ x.f1.size ≤ 1048576) : Ev (fun k => spec_ReqOk.f k m p l b) (ZZ m p l b) := by
 unfold spec_ReqOk.f ZZ
 refine Ev.bind (ZbH m hm) (ev_iteB (fun q => ?_) (fun q => ?_))
 ·rw [q, Bool.true_and]
  refine Ev.bind (ZbI p hp) (ev_iteB (fun q0 => ?_) (fun q0 => ?_))
  ·rw [q0, Bool.true_and]
   refine Ev.bind (Zb6 l hl hs) (ev_iteB (fun q1 => ?_) (fun q1 => ?_))
   ·rw [q1, Bool.true_and]; exact Ev.now _
   ·rw [q1, Bool.false_and]; exact Ev.now _
  ·rw [q0, Bool.false_and]; exact Ev.now _
 ·rw [q, Bool.false_and]; exact Ev.now _
abbrev Zp := BA × BA × List S113 × BA × BA × Bool × Int × Bool × Bool
def TEb : List Int := [116, 114, 97, 110, 115, 102, 101, 114, 45, 101, 110, 99, 111, 100, 105, 110, 103]
def CLb : List Int := [99, 111, 110, 116, 101, 110, 116, 45, 108, 101, 110, 103, 116, 104]
def ZaR (n v : BA) : Zp → Zp := fun (m, p, hs, b, co, ch, sz, td, bad) =>
 if (ch || td) = true then (m, p, hs, b, co, ch, sz, td, true)
 else if bytesOf n = TEb then (m, p, hs, b, v, true, sz, td, bad)
 else (m, p, hs, b, co, ch, (Z1 v 9999999).1, true, bad || !(Z1 v 9999999).2)
def Zf (s : BA) : BA := ZF (strOfNums (tkC 58 (bytesOf s)))
def ZQ (s : BA) : BA := Z2 (strOfNums (drC 58 (bytesOf s)).tail)
def ZK (s : BA) : Zp → Zp := fun (m, p, hs, b, co, ch, sz, td, bad) =>
 if drC 58 (bytesOf s) ≠ [] ∧ Z7 (Zf s) = true ∧ Z9 (ZQ s) = true then
  if bytesOf (Zf s) = CLb ∨ bytesOf (Zf s) = TEb then ZaR (Zf s) (ZQ s) (m, p, hs, b, co, ch, sz, td, bad)
  else (m, p, hs ++ [⟨Zf s, ZQ s⟩], b, co, ch, sz, td, bad)
 else (m, p, hs, b, co, ch, sz, td, true)
theorem ZdS (n v m p : BA) (hs : List S113) (b co : BA) (ch : Bool) (sz : Int) (td bad : Bool) (hv : v.size ≤ 1048576) :
  Ev (fun k => impl_reqHead_special.f k m p hs b co ch sz td bad n v) (ZaR n v (m, p, hs, b, co, ch, sz, td, bad)) := by
 have hlit : (n.toList = ([116, 114, 97, 110, 115, 102, 101, 114, 45, 101, 110, 99, 111, 100, 105, 110, 103] : List UInt8)) ↔ bytesOf n = TEb := Z6 n _
 have hp := ZbF v 9999999 (by omega)
 have j : ∀ x : Bool, x = (ch || td) → Ev (fun k => impl_reqHead_special.j0 k n v x m p hs b co ch sz td bad) (ZaR n v (m, p, hs, b, co, ch, sz, td, bad)) := by
  intro x hx
  apply ev_succ
  simp only [impl_reqHead_special.j0]
  unfold ZaR
  simp only []
  rw [← hx]
  cases x with
  | true => simp only [if_true]; exact Ev.now _
  | false =>
   simp only [Bool.false_eq_true, if_false]
   by_cases q : bytesOf n = TEb
   ·simp only [if_pos q, if_pos (hlit.2 q)]; exact Ev.now _
   ·simp only [if_neg q, if_neg (fun h => q (hlit.1 h)), hp, Option.bind_some]
    cases bad <;> simp <;> exact Ev.now _
 unfold impl_reqHead_special.f
 cases ch with
 | true => simp only [if_true]; exact j true rfl
 | false => simp only [Bool.false_eq_true, if_false]; exact j td rfl
theorem ZeE (s m p : BA) (hs : List S113) (b co : BA) (ch : Bool) (sz : Int) (td bad : Bool) (hz : s.size ≤ 1048576) (hl : hs.length ≤ 1048577) :
  Ev (fun k => impl_reqHead_line.f k m p hs b co ch sz td bad s) (ZK s (m, p, hs, b, co, ch, sz, td, bad)) := by
 obtain ⟨a, v, e, ha, hv⟩ := ZeC s 58 (by omega)
 have ea : a = strOfNums (tkC 58 (bytesOf s)) := by rw [← strOfNums_bytesOf a, ha]; rfl
 have ev : v = strOfNums (drC 58 (bytesOf s)).tail := by rw [← strOfNums_bytesOf v, hv]; rfl
 have hlen := Zbp 58 (bytesOf s)
 rw [bytesOf_length] at hlen
 have sa : a.size ≤ 1048576 := by rw [ea, strOfNums_size]; omega
 have sv : v.size ≤ 1048576 := by rw [ev, strOfNums_size, List.length_tail]; omega
 have el : ZF a = Zf s := by unfold Zf; rw [ea]
 have et : Z2 v = ZQ s := by unfold ZQ; rw [ev]
 have sl : (Zf s).size ≤ 1048576 := by rw [← el]; unfold ZF ZV; rw [strOfNums_size, List.length_map, bytesOf_length]; omega
 have st : (ZQ s).size ≤ 1048576 := by rw [← et]; have := Zcu v; omega
 have h1 := ZaZ a sa
 have h2 := Zbc v (by omega)
 rw [el] at h1
 rw [et] at h2
 have h3 := Zan (Zf s) (by omega)
 have h4 := Za1 (ZQ s) st
 have jbad : Ev (fun k => impl_reqHead_line.j0 k (Zf s) (ZQ s) true m p hs b co ch sz td bad) (m, p, hs, b, co, ch, sz, td, true) := by
  apply ev_succ; simp only [impl_reqHead_line.j0, if_true]; exact Ev.now _
 have hCL : ((Zf s).toList = ([99, 111, 110, 116, 101, 110, 116, 45, 108, 101, 110, 103, 116, 104] : List UInt8)) ↔ bytesOf (Zf s) = CLb := Z6 _ _
 have hTE : ((Zf s).toList = ([116, 114, 97, 110, 115, 102, 101, 114, 45, 101, 110, 99, 111, 100, 105, 110, 103] : List UInt8)) ↔ bytesOf (Zf s) = TEb := Z6 _ _
 have hsp := ZdS (Zf s) (ZQ s) m p hs b co ch sz td bad st
 have jok : Ev (fun k => impl_reqHead_line.j0 k (Zf s) (ZQ s) false m p hs b co ch sz td bad) (if bytesOf (Zf s) = CLb ∨ bytesOf (Zf s) = TEb then ZaR (Zf s) (ZQ s) (m, p, hs, b, co, ch, sz, td, bad) else (m, p, hs ++ [⟨Zf s, ZQ s⟩], b, co, ch, sz, td, bad)) := by
  apply ev_succ
  simp only [impl_reqHead_line.j0, Bool.false_eq_true, if_false]
  by_cases q1 : bytesOf (Zf s) = CLb
  ·rw [if_pos (show bytesOf (Zf s) = CLb ∨ bytesOf (Zf s) = TEb from .inl q1)]
   simp only [if_pos (hCL.2 q1)]
   exact Ev.bind hsp (Ev.now _)
  ·simp only [if_neg (fun h => q1 (hCL.1 h))]
   by_cases q2 : bytesOf (Zf s) = TEb
   ·rw [if_pos (show bytesOf (Zf s) = CLb ∨ bytesOf (Zf s) = TEb from .inr q2)]
    simp only [if_pos (hTE.2 q2)]
    exact Ev.bind hsp (Ev.now _)
   ·rw [if_neg (show ¬ (bytesOf (Zf s) = CLb ∨ bytesOf (Zf s) = TEb) from fun h => h.elim q1 q2)]
    simp only [if_neg (fun h => q2 (hTE.1 h)), if_pos (show hs.length < 4398046511104 by omega)]
    exact Ev.now _
 unfold impl_reqHead_line.f ZK
 simp only [e, Option.bind_some, decide_eq_true_iff]
 refine Ev.bind h1 ?_
 simp only [h2, Option.bind_some]
 have e58 : ((58 : UInt8).toNat : Int) = 58 := rfl
 simp only [e58]
 by_cases q0 : drC 58 (bytesOf s) ≠ []
 ·simp only [if_pos q0]
  refine Ev.bind h3 ?_
  by_cases q1 : Z7 (Zf s) = true
  ·simp only [if_pos q1]
   refine Ev.bind h4 ?_
   by_cases q2 : Z9 (ZQ s) = true
   ·rw [if_pos ⟨q0, q1, q2⟩, q2]; exact jok
   ·rw [if_neg (fun h => q2 h.2.2), Bool.not_eq_true _ |>.mp q2]; exact jbad
  ·simp only [if_neg q1]
   rw [if_neg (fun h => q1 h.2.1)]; exact jbad
 ·simp only [if_neg q0]
  rw [if_neg (fun h => q0 h.1)]; exact jbad
def Zap (x : BA) (h : S113) : BA := x ++ ((((h.f0) ++ (⟨#[58, 32]⟩ : BA)) ++ h.f1) ++ (⟨#[13, 10]⟩ : BA))
def htL : BA → List S113 → BA
 | x, [] => x
 | x, c :: r => htL (Zap x c) r
def Zag (l : List S113) : BA := htL (⟨#[]⟩ : BA) l
theorem Zer : (⟨#[58, 32]⟩ : BA).size = 2 := rfl
theorem Zes : (⟨#[13, 10]⟩ : BA).size = 2 := rfl
theorem ZaS (x : BA) (h : S113) : (Zap x h).size = x.size + (h.f0.size + 2 + h.f1.size + 2) := by
 unfold Zap; simp only [ByteArray.size_append, Zer, Zes]
theorem Zdb : ∀ (l : List S113) (x : BA), (∀ y ∈ l, y.f0.size ≤ 1048576 ∧ y.f1.size ≤ 1048576) → (htL x l).size ≤ x.size + l.length * 2097156
 | [], x, _ => by simp [htL]
 | c :: r, x, h => by
  have h1 := Zdb r (Zap x c) (fun y hy => h y (by simp [hy]))
  have h2 := h c (by simp)
  rw [ZaS] at h1
  simp only [htL, List.length_cons]
  omega
theorem Za2 (l : List S113) (hl : l.length ≤ 1048576) (h : ∀ y ∈ l, y.f0.size ≤ 1048576 ∧ y.f1.size ≤ 1048576) : (Zag l).size ≤ 2199027449856 := by
 have := Zdb l (⟨#[]⟩ : BA) h
 rw [show (⟨#[]⟩ : BA).size = 0 from rfl] at this
 unfold Zag
 omega
theorem ZbJ (l : List S113) (hl : l.length ≤ 1048576) (hs : ∀ x ∈ l, x.f0.size ≤ 1048576 ∧ x.f1.size ≤ 1048576) : Ev (fun k => impl_headText.f k l) (Zag l) := by
 refine list_loop_st l (by omega) (fun i x k => impl_headText.l0 k x l (l.length : Int) (i : Int)) (fun _ x r => htL x r) (fun i x r => x.size ≤ i * 2097156 ∧ ∀ y ∈ r, y.f0.size ≤ 1048576 ∧ y.f1.size ≤ 1048576) ?_ ?_ 0 _ ⟨by rw [show (⟨#[]⟩ : BA).size = 0 from rfl]; omega, hs⟩
 ·intro i x _ hi
  apply ev_succ; simp only [impl_headText.l0, if_neg (show ¬ (i : Int) < l.length by omega)]; exact Ev.now _
 ·intro i x c r ⟨hx, hr⟩ h hb hi hw1 ih
  have hbb : rd_T113 l (i : Int) = c := hb _
  obtain ⟨hc0, hc1⟩ := hr c (by simp)
  replace ih := ih (Zap x c) ⟨by rw [ZaS]; omega, fun y hy => hr y (by simp [hy])⟩
  apply ev_succ
  simp only [impl_headText.l0, if_pos (show (i : Int) < l.length by omega), if_pos (show (0 : Int) ≤ i by omega), hbb, hw1, ByteArray.size_append, Zer, Zes, if_pos (show c.f0.size + 2 ≤ 9223372036854775807 by omega), if_pos (show c.f0.size + 2 + c.f1.size ≤ 9223372036854775807 by omega), if_pos (show c.f0.size + 2 + c.f1.size + 2 ≤ 9223372036854775807 by omega), if_pos (show x.size + (c.f0.size + 2 + c.f1.size + 2) ≤ 9223372036854775807 by omega)]
  exact ih
theorem Zdo (x : BA) (h : S113) : (((x ++ h.f0) ++ (⟨#[58, 32]⟩ : BA)) ++ h.f1) ++ (⟨#[13, 10]⟩ : BA) = Zap x h := by
 unfold Zap; simp only [ByteArray.append_assoc]
theorem Za3 (l : List S113) (hl : l.length ≤ 1048576) (hs : ∀ x ∈ l, x.f0.size ≤ 1048576 ∧ x.f1.size ≤ 1048576) : Ev (fun k => spec_l3HeadsText.f k l) (Zag l) := by
 refine list_loop_st l (by omega) (fun i x k => spec_l3HeadsText.l0 k l x (i : Int)) (fun _ x r => htL x r) (fun i x r => x.size ≤ i * 2097156 ∧ ∀ y ∈ r, y.f0.size ≤ 1048576 ∧ y.f1.size ≤ 1048576) ?_ ?_ 0 _ ⟨by rw [show (⟨#[]⟩ : BA).size = 0 from rfl]; omega, hs⟩
 ·intro i x _ hi
  apply ev_succ; simp only [spec_l3HeadsText.l0, if_neg (show ¬ (i : Int) < l.length by omega)]; exact Ev.now _
 ·intro i x c r ⟨hx, hr⟩ h hb hi hw1 ih
  have hbb : rd_T113 l (i : Int) = c := hb _
  obtain ⟨hc0, hc1⟩ := hr c (by simp)
  replace ih := ih (Zap x c) ⟨by rw [ZaS]; omega, fun y hy => hr y (by simp [hy])⟩
  apply ev_succ
  simp only [spec_l3HeadsText.l0, if_pos (show (i : Int) < l.length by omega), if_pos (show (0 : Int) ≤ i by omega), hbb, hw1, Zdo, ByteArray.size_append, Zer, Zes, if_pos (show x.size + c.f0.size ≤ 9223372036854775807 by omega), if_pos (show x.size + c.f0.size + 2 ≤ 9223372036854775807 by omega), if_pos (show x.size + c.f0.size + 2 + c.f1.size ≤ 9223372036854775807 by omega), if_pos (show x.size + c.f0.size + 2 + c.f1.size + 2 ≤ 9223372036854775807 by omega)]
  exact ih
theorem ZaH : (⟨#[13, 10]⟩ : BA).size = 2 := rfl
theorem ZaM (l : List BA) (i : Nat) : rdOf ByteArray.empty l (i : Int) = l.getD i ByteArray.empty := by
 unfold rdOf; rw [Int.toNat_natCast]
def CHb : List Int := [99, 104, 117, 110, 107, 101, 100]
def ZaT : List Int := [72, 84, 84, 80, 47, 49, 46, 49]
def ZW (st : Zp) : List S113 := st.2.2.1
def ZbK (st : Zp) : BA := st.2.2.2.2.1
def ZeQ (st : Zp) : Bool := st.2.2.2.2.2.1
def Zcj (st : Zp) : Int := st.2.2.2.2.2.2.1
def ZeX (st : Zp) : Bool := st.2.2.2.2.2.2.2.2
def stZ : Zp := (⟨#[]⟩, ⟨#[]⟩, [], ⟨#[]⟩, ⟨#[]⟩, false, 0, false, false)
def Zaa (st : Zp) : Int := if ZeX st = true then 400 else if 8 < (ZW st).length then 431 else if ZeQ st = true ∧ bytesOf (ZF (ZbK st)) ≠ CHb then 501 else if 200 < Zcj st then 413 else 0
theorem Zcv (m p : BA) (hs : List S113) (b co : BA) (ch : Bool) (sz : Int) (td bad : Bool) : Zaa (m, p, hs, b, co, ch, sz, td, bad) = if bad = true then 400 else if 8 < hs.length then 431 else if ch = true ∧ bytesOf (ZF co) ≠ CHb then 501 else if 200 < sz then 413 else 0 := rfl
def Z4 (ls : List BA) (st : Zp) : Zp := ls.foldl (fun st s => ZK s st) st
def rhS (l : List Int) : Zp × Int :=
 if (Zj 32 (bytesOf ((Ze l).getD 0 ByteArray.empty))).length = 3 ∧ bytesOf ((Zj 32 (bytesOf ((Ze l).getD 0 ByteArray.empty))).getD 2 ByteArray.empty) = ZaT ∧ (ZP ((Zj 32 (bytesOf ((Ze l).getD 0 ByteArray.empty))).getD 0 ByteArray.empty) && Zq ((Zj 32 (bytesOf ((Ze l).getD 0 ByteArray.empty))).getD 1 ByteArray.empty)) = true then
  (Z4 ((Ze l).drop 1) ((Zj 32 (bytesOf ((Ze l).getD 0 ByteArray.empty))).getD 0 ByteArray.empty, (Zj 32 (bytesOf ((Ze l).getD 0 ByteArray.empty))).getD 1 ByteArray.empty, [], ⟨#[]⟩, ⟨#[]⟩, false, 0, false, false),
   Zaa (Z4 ((Ze l).drop 1) ((Zj 32 (bytesOf ((Ze l).getD 0 ByteArray.empty))).getD 0 ByteArray.empty, (Zj 32 (bytesOf ((Ze l).getD 0 ByteArray.empty))).getD 1 ByteArray.empty, [], ⟨#[]⟩, ⟨#[]⟩, false, 0, false, false)))
 else (stZ, 400)
def ZcP (r : Zp × Int) : BA × BA × List S113 × BA × BA × Bool × Int × Bool × Bool × Int :=
 (r.1.1, r.1.2.1, r.1.2.2.1, r.1.2.2.2.1, r.1.2.2.2.2.1, r.1.2.2.2.2.2.1, r.1.2.2.2.2.2.2.1, r.1.2.2.2.2.2.2.2.1, r.1.2.2.2.2.2.2.2.2, r.2)
def StP (n : Nat) (st : Zp) : Prop := (ZW st).length ≤ n ∧ (∀ x ∈ ZW st, x.f0.size ≤ 1048576 ∧ x.f1.size ≤ 1048576) ∧ (ZbK st).size ≤ 1048576 ∧ 0 ≤ Zcj st
theorem ZeF (s : BA) (m : Int) : 0 ≤ (Z1 s m).1 := by
 by_cases h : (Z1 s m).2 = true
 ·exact (ZdM s m h).1
 ·have e : Z1 s m = (0, false) ∨ (Z1 s m).2 = true := by
   by_cases q : ∃ u : Nat, bytesOf s = ZB u ∧ s.size ≤ 7 ∧ (u : Int) ≤ m
   ·obtain ⟨u, h1, h2, h3⟩ := q
    right; rw [Zc4 s m u h1 h2 h3]
   ·left; exact ZdC s m (fun u h1 h2 h3 => q ⟨u, h1, h2, h3⟩)
  rcases e with e | e
  ·rw [e]; exact Int.le_refl 0
  ·exact absurd e h
theorem ZdT (s : BA) (n : Nat) (h : s.size ≤ n) : (Zf s).size ≤ n := by
 have hlen := Zbp 58 (bytesOf s)
 rw [bytesOf_length] at hlen
 have := bytesOf_length (strOfNums (tkC 58 (bytesOf s)))
 unfold Zf ZF ZV; rw [strOfNums_size, List.length_map, bytesOf_length, strOfNums_size]; omega
theorem Zd7 (s : BA) (n : Nat) (h : s.size ≤ n) : (ZQ s).size ≤ n := by
 have hlen := Zbp 58 (bytesOf s)
 rw [bytesOf_length] at hlen
 have := Zcu (strOfNums (drC 58 (bytesOf s)).tail)
 rw [strOfNums_size, List.length_tail] at this
 unfold ZQ; omega
theorem ZdD {n : Nat} {st : Zp} {s : BA} (h : StP n st) (hs : s.size ≤ 1048576) : StP (n + 1) (ZK s st) := by
 obtain ⟨m, p, hs', b, co, ch, sz, td, bad⟩ := st
 obtain ⟨h1, h2, h3, h4⟩ := h
 have hv := Zd7 s 1048576 hs
 have hn := ZdT s 1048576 hs
 simp only [ZW, ZbK, Zcj] at h1 h2 h3 h4
 unfold ZK
 simp only []
 split
 ·split
  ·unfold ZaR
   simp only []
   split
   ·exact ⟨by simp only [ZW]; omega, h2, h3, h4⟩
   ·split
    ·exact ⟨by simp only [ZW]; omega, h2, hv, h4⟩
    ·exact ⟨by simp only [ZW]; omega, h2, h3, ZeF _ _⟩
  ·refine ⟨by simp only [ZW, List.length_append, List.length_cons, List.length_nil]; omega, fun x hx => ?_, h3, h4⟩
   rcases List.mem_append.1 hx with hx | hx
   ·exact h2 x hx
   ·simp only [List.mem_cons, List.not_mem_nil, or_false] at hx
    subst hx; exact ⟨hn, hv⟩
 ·exact ⟨by simp only [ZW]; omega, h2, h3, h4⟩
theorem Zd8 : ∀ (ls : List BA) (n : Nat) (st : Zp), StP n st → (∀ x ∈ ls, x.size ≤ 1048576) → StP (n + ls.length) (Z4 ls st)
 | [], n, st, h, _ => h
 | s :: ls, n, st, h, hx => by
  have := Zd8 ls (n + 1) (ZK s st) (ZdD h (hx s (by simp))) (fun x h => hx x (by simp [h]))
  rw [List.length_cons, show n + (ls.length + 1) = n + 1 + ls.length by omega]
  exact this
theorem Zdc (ls0 ls : List BA) (st : Zp) (i : Int) (hi : ¬ i < (ls.length : Int)) (h : StP 1048577 st) :
  Ev (fun k => impl_readHead.l0 k ls0 ls (ls.length : Int) i st.1 st.2.1 st.2.2.1 st.2.2.2.1 st.2.2.2.2.1 st.2.2.2.2.2.1 st.2.2.2.2.2.2.1 st.2.2.2.2.2.2.2.1 st.2.2.2.2.2.2.2.2) (ZcP (st, Zaa st)) := by
 obtain ⟨m, p, hs', b, co, ch, sz, td, bad⟩ := st
 obtain ⟨h1, h2, h3, h4⟩ := h
 simp only [ZW, ZbK, Zcj] at h1 h2 h3 h4
 have hlow := ZaZ co h3
 have hlit : ((ZF co).toList = ([99, 104, 117, 110, 107, 101, 100] : List UInt8)) ↔ bytesOf (ZF co) = CHb := Z6 _ _
 have j2 : ∀ x : Bool, (x = true ↔ ch = true ∧ bytesOf (ZF co) ≠ CHb) → Ev (fun k => impl_readHead.j2 k x m p hs' b co ch sz td bad) (m, p, hs', b, co, ch, sz, td, bad, if ch = true ∧ bytesOf (ZF co) ≠ CHb then 501 else if 200 < sz then 413 else 0) := by
  intro x hx
  apply ev_succ
  simp only [impl_readHead.j2]
  by_cases q : x = true
  ·rw [if_pos (hx.1 q)]; simp only [if_pos q]; exact Ev.now _
  ·rw [if_neg (fun h => q (hx.2 h))]; simp only [if_neg q]
   by_cases q1 : sz > 200
   ·rw [if_pos (show 200 < sz from q1)]; simp only [if_pos q1]; exact Ev.now _
   ·rw [if_neg (show ¬ 200 < sz from q1)]; simp only [if_neg q1]; exact Ev.now _
 show Ev _ (m, p, hs', b, co, ch, sz, td, bad, Zaa (m, p, hs', b, co, ch, sz, td, bad))
 rw [Zcv]
 apply ev_succ
 simp only [impl_readHead.l0, if_neg hi]
 by_cases c0 : bad = true
 ·simp only [if_pos c0]; exact Ev.now _
 simp only [if_neg c0]
 by_cases c1 : (hs'.length : Int) > 8
 ·simp only [if_pos c1, if_pos (show 8 < hs'.length by omega)]; exact Ev.now _
 simp only [if_neg c1, if_neg (show ¬ 8 < hs'.length by omega)]
 cases ch with
 | true =>
  simp only [if_true]
  refine Ev.bind hlow ?_
  have := j2 ((ZF co).toList != ([99, 104, 117, 110, 107, 101, 100] : List UInt8)) (by
   rw [bne_iff_ne, Ne, hlit]; simp)
  simpa using this
 | false =>
  simp only [Bool.false_eq_true, if_false]
  have := j2 false (by simp)
  simpa using this
theorem Zbx (ls0 ls : List BA) (hx : ∀ x ∈ ls, x.size ≤ 1048576) (hn : ls.length ≤ 1048576) : ∀ (m i : Nat) (st : Zp), ls.length - i = m → i ≤ ls.length → StP i st →
  Ev (fun k => impl_readHead.l0 k ls0 ls (ls.length : Int) (i : Int) st.1 st.2.1 st.2.2.1 st.2.2.2.1 st.2.2.2.2.1 st.2.2.2.2.2.1 st.2.2.2.2.2.2.1 st.2.2.2.2.2.2.2.1 st.2.2.2.2.2.2.2.2) (ZcP (Z4 (ls.drop i) st, Zaa (Z4 (ls.drop i) st)))
 | 0, i, st, hm, hi, h => by
  have he : i = ls.length := by omega
  subst he
  rw [List.drop_length]
  exact Zdc ls0 ls st _ (by omega) ⟨by have := h.1; omega, h.2⟩
 | m + 1, i, st, hm, hi, h => by
  have hlt : i < ls.length := by omega
  have hsz := hx ls[i] (List.getElem_mem hlt)
  have ih := Zbx ls0 ls hx hn m (i + 1) (ZK ls[i] st) (by omega) (by omega) (ZdD h hsz)
  have hw1 : wrap64 ((i : Int) + 1) = ((i + 1 : Nat) : Int) := by rw [wrap_id (by omega) (by omega)]; rfl
  have hgt : ls[i]? = some ls[i] := List.getElem?_eq_getElem hlt
  have hrd : rdOf ByteArray.empty ls (i : Int) = ls[i] := by rw [ZaM, List.getD_eq_getElem?_getD, hgt]; rfl
  have hd : ls.drop i = ls[i] :: ls.drop (i + 1) := List.drop_eq_getElem_cons hlt
  have hfold : Z4 (ls.drop i) st = Z4 (ls.drop (i + 1)) (ZK ls[i] st) := by rw [hd]; rfl
  rw [hfold]
  have hl := h.1
  obtain ⟨a0, a1, a2, a3, a4, a5, a6, a7, a8⟩ := st
  simp only [ZW] at hl
  have hline := ZeE ls[i] a0 a1 a2 a3 a4 a5 a6 a7 a8 hsz (by omega)
  apply ev_succ
  simp only [impl_readHead.l0, if_pos (show (i : Int) < (ls.length : Int) by omega), if_pos (show (0 : Int) ≤ (i : Int) by omega), hrd, hw1]
  exact Ev.bind hline ih
theorem Zd9 (s : BA) (c : UInt8) (h : s.size ≤ 1048576) : strings_Split.f s (⟨#[c]⟩ : BA) = some (Zj (c.toNat : Int) (bytesOf s)) := by
 unfold strings_Split.f
 rw [if_pos ⟨by omega, Nat.le_refl 1⟩, ZcD c s.size s (Nat.le_refl _)]
theorem Zbf (c : Int) : ∀ (l cur : List Int), ∀ a ∈ ZJ c cur l, a.length ≤ cur.length + l.length
 | [], cur, a, h => by simp [ZJ] at h; subst h; simp
 | x :: r, cur, a, h => by
  rw [ZJ] at h
  split at h
  ·simp only [List.mem_cons] at h
   rcases h with h | h
   ·subst h; omega
   ·have := Zbf c r [] a h; simp only [List.length_nil, List.length_cons] at this ⊢; omega
  ·have := Zbf c r _ a h; simp only [List.length_append, List.length_cons, List.length_nil] at this ⊢; omega
theorem Zdp (c : Int) (l : List Int) (i : Nat) : ((Zj c l).getD i ByteArray.empty).size ≤ l.length := by
 rw [List.getD_eq_getElem?_getD]
 rcases Nat.lt_or_ge i (Zj c l).length with h | h
 ·rw [List.getElem?_eq_getElem h]
  show ((Zj c l)[i]).size ≤ _
  obtain ⟨a, ha, e⟩ := List.mem_map.1 (List.getElem_mem h)
  rw [← e, strOfNums_size]
  have := Zbf c l [] a ha
  simpa using this
 ·rw [List.getElem?_eq_none h]; exact Nat.zero_le _
theorem Zdq (l : List Int) (hl : l.length ≤ 1048576) (hr : ∀ x ∈ l, 0 ≤ x ∧ x < 256) : Ev (fun k => impl_readHead.f k (strOfNums l)) (ZcP (rhS l)) := by
 have hln := Zb0 l
 have hsz := Zbw hr
 unfold impl_readHead.f rhS
 simp only [Zdm l hl hr, Option.bind_some]
 generalize Ze l = ls at hln hsz
 have h00 : rdOf ByteArray.empty ls 0 = ls.getD 0 ByteArray.empty := ZaM ls 0
 have hg : (ls.getD 0 ByteArray.empty).size ≤ 1048576 := by
  rw [List.getD_eq_getElem?_getD, List.getElem?_eq_getElem (show 0 < ls.length by omega)]
  have := hsz ls[0] (List.getElem_mem _)
  show ls[0].size ≤ _
  omega
 simp only [if_pos (show (0 : Int) < (ls.length : Int) by omega), h00, Zd9 _ 32 hg, Option.bind_some, show ((32 : UInt8).toNat : Int) = 32 from rfl]
 have hps := Zdp 32 (bytesOf (ls.getD 0 ByteArray.empty))
 rw [bytesOf_length] at hps
 generalize Zj 32 (bytesOf (ls.getD 0 ByteArray.empty)) = ps at hps
 have g0 : rdOf ByteArray.empty ps 0 = ps.getD 0 ByteArray.empty := ZaM ps 0
 have g1 : rdOf ByteArray.empty ps 1 = ps.getD 1 ByteArray.empty := ZaM ps 1
 have g2 : rdOf ByteArray.empty ps 2 = ps.getD 2 ByteArray.empty := ZaM ps 2
 have hlit : ((ps.getD 2 ByteArray.empty).toList = ([72, 84, 84, 80, 47, 49, 46, 49] : List UInt8)) ↔ bytesOf (ps.getD 2 ByteArray.empty) = ZaT := Z6 _ _
 have jbad : Ev (fun k => impl_readHead.j0 k ls ps true (⟨#[]⟩ : BA) (⟨#[]⟩ : BA) ([] : List S113) (⟨#[]⟩ : BA) (⟨#[]⟩ : BA) false 0 false false) (ZcP (stZ, 400)) := by
  apply ev_succ; simp only [impl_readHead.j0, if_true]; exact Ev.now _
 by_cases q0 : ps.length = 3
 ·simp only [if_pos (show (ps.length : Int) = 3 by omega), if_pos (show (2 : Int) < (ps.length : Int) by omega), g0, g1, g2]
  by_cases q1 : bytesOf (ps.getD 2 ByteArray.empty) = ZaT
  ·simp only [if_pos (hlit.2 q1), if_pos (show (0 : Int) < (ps.length : Int) by omega), if_pos (show (1 : Int) < (ps.length : Int) by omega)]
   refine Ev.bind (ZaL _ _ (Nat.le_trans (hps 0) hg) (Nat.le_trans (hps 1) hg)) ?_
   by_cases q2 : (ZP (ps.getD 0 ByteArray.empty) && Zq (ps.getD 1 ByteArray.empty)) = true
   ·rw [if_pos ⟨q0, q1, q2⟩, q2]
    apply ev_succ
    simp only [impl_readHead.j0, Bool.not_true, Bool.false_eq_true, if_false, if_pos (show (0 : Int) < (ps.length : Int) by omega), if_pos (show (1 : Int) < (ps.length : Int) by omega), if_pos (show (1 : Int) ≤ (ls.length : Int) by omega), Option.bind_some, g0, g1]
    have hd : ∀ x ∈ ls.drop 1, x.size ≤ 1048576 := fun x hx => by have := hsz x (List.mem_of_mem_drop hx); omega
    exact Zbx ls (ls.drop 1) hd (by rw [List.length_drop]; omega) _ 0 (ps.getD 0 ByteArray.empty, ps.getD 1 ByteArray.empty, [], ⟨#[]⟩, ⟨#[]⟩, false, 0, false, false) rfl (Nat.zero_le _) ⟨Nat.le_refl 0, fun x hx => absurd hx (by simp [ZW]), by simp only [ZbK]; decide, Int.le_refl 0⟩
   ·rw [if_neg (fun h => q2 h.2.2), Bool.not_eq_true _ |>.mp q2]; exact jbad
  ·simp only [if_neg (fun h => q1 (hlit.1 h))]
   rw [if_neg (fun h => q1 h.2.1)]; exact jbad
 ·simp only [if_neg (show ¬ (ps.length : Int) = 3 by omega)]
  rw [if_neg (fun h => q0 h.1)]; exact jbad
abbrev Zet := BA × BA × List S113 × BA × Int × Int
def Zdd (c : Int) : Zet := (⟨#[]⟩, ⟨#[]⟩, [], ⟨#[]⟩, 0, c)
def Zde (l : List Int) (e : Nat) (m p : BA) (hs : List S113) (ch : Bool) (sz : Int) (code : Int) : Zet :=
 if code ≠ 0 then Zdd code
 else if ch = true then
  (if (chR (l.length + 1) (l.drop e) []).2.2 = 0 then (m, p, hs, strOfNums (chR (l.length + 1) (l.drop e) []).1, (l.length : Int) - ((chR (l.length + 1) (l.drop e) []).2.1.length : Int), 0) else Zdd (chR (l.length + 1) (l.drop e) []).2.2)
 else if l.length < e + sz.toNat then Zdd 1
 else (m, p, hs, strOfNums ((l.drop e).take sz.toNat), ((e + sz.toNat : Nat) : Int), 0)
def ZbL (l : List Int) : Zet :=
 if Zk l < 0 then (if 400 < l.length then Zdd 431 else Zdd 1)
 else Zde l (Zk l).toNat (rhS (l.take ((Zk l).toNat - 4))).1.1 (rhS (l.take ((Zk l).toNat - 4))).1.2.1 (ZW (rhS (l.take ((Zk l).toNat - 4))).1) (ZeQ (rhS (l.take ((Zk l).toNat - 4))).1) (Zcj (rhS (l.take ((Zk l).toNat - 4))).1) (rhS (l.take ((Zk l).toNat - 4))).2
theorem ZeY (l : List Int) (hl : l.length ≤ 1048575) (hr : ∀ x ∈ l, 0 ≤ x ∧ x < 256) : StP 1048577 (rhS l).1 ∧ ((rhS l).2 = 0 → Zcj (rhS l).1 ≤ 200 ∧ (ZW (rhS l).1).length ≤ 8) ∧ (rhS l).2 ≠ 1 := by
 unfold rhS
 split
 ·have hsz := Zbw hr
  have hln := Zb0 l
  have h := Zd8 ((Ze l).drop 1) 0 ((Zj 32 (bytesOf ((Ze l).getD 0 ByteArray.empty))).getD 0 ByteArray.empty, (Zj 32 (bytesOf ((Ze l).getD 0 ByteArray.empty))).getD 1 ByteArray.empty, [], ⟨#[]⟩, ⟨#[]⟩, false, 0, false, false)
   ⟨Nat.le_refl 0, fun x hx => absurd hx (by simp [ZW]), by simp only [ZbK]; decide, Int.le_refl 0⟩ (fun x hx => by have := hsz x (List.mem_of_mem_drop hx); omega)
  rw [List.length_drop] at h
  simp only []
  generalize Z4 ((Ze l).drop 1) ((Zj 32 (bytesOf ((Ze l).getD 0 ByteArray.empty))).getD 0 ByteArray.empty, (Zj 32 (bytesOf ((Ze l).getD 0 ByteArray.empty))).getD 1 ByteArray.empty, [], ⟨#[]⟩, ⟨#[]⟩, false, 0, false, false) = st at h
  refine ⟨⟨by have := h.1; omega, h.2⟩, ?_, ?_⟩
  ·unfold Zaa
   split
   ·intro h; exact absurd h (by decide)
   ·split
    ·intro h; exact absurd h (by decide)
    ·split
     ·intro h; exact absurd h (by decide)
     ·split
      ·intro h; exact absurd h (by decide)
      ·intro _; exact ⟨by omega, by omega⟩
  ·unfold Zaa
   repeat' split
   all_goals decide
 ·exact ⟨⟨Nat.zero_le _, fun x hx => absurd hx (by simp [ZW, stZ]), by simp only [ZbK, stZ]; decide, Int.le_refl 0⟩, fun h => absurd h (by decide), by decide⟩
theorem Zea (l : List Int) (hl : l.length ≤ 1048575) (hr : ∀ x ∈ l, 0 ≤ x ∧ x < 256) : Ev (fun k => impl_GetReq.f k l) (ZbL l) := by
 unfold impl_GetReq.f ZbL
 rw [ZbY l hr]
 simp only [Option.bind_some]
 have hb := ZbW (l.take 400) 0
 have h4 := Zd3 (l.take 400) 0
 rw [List.length_take] at hb h4
 change Zk l ≤ _ ∧ _ at hb
 change 0 ≤ Zk l → _ at h4
 by_cases q0 : Zk l < 0
 ·rw [if_pos q0]; simp only [if_pos q0]
  by_cases q1 : (l.length : Int) > 400
  ·rw [if_pos (show 400 < l.length by omega)]; simp only [if_pos q1]; exact Ev.now _
  ·rw [if_neg (show ¬ 400 < l.length by omega)]; simp only [if_neg q1]; exact Ev.now _
 rw [if_neg q0]; simp only [if_neg q0]
 have h44 : (4 : Int) ≤ Zk l := by have := (h4 (by omega)).1; change (0 : Int) + 4 ≤ Zk l at this; omega
 obtain ⟨e, he⟩ : ∃ e : Nat, Zk l = (e : Int) := ⟨(Zk l).toNat, by omega⟩
 rw [he] at hb h44
 simp only [he, Int.toNat_natCast]
 clear h4 q0
 have hw : wrap64 ((e : Int) - 4) = ((e - 4 : Nat) : Int) := by rw [wrap_id (by omega) (by omega)]; omega
 simp only [hw, if_pos (show (0 : Int) ≤ ((e - 4 : Nat) : Int) by omega), if_pos (show ((e - 4 : Nat) : Int) ≤ (l.length : Int) by omega), Int.toNat_natCast]
 have hrt : ∀ x ∈ l.take (e - 4), 0 ≤ x ∧ x < 256 := fun x hx => hr x (List.mem_of_mem_take hx)
 have hlt : (l.take (e - 4)).length ≤ 1048575 := by rw [List.length_take]; omega
 obtain ⟨hP, hP2, _⟩ := ZeY (l.take (e - 4)) hlt hrt
 have hrh := Zdq (l.take (e - 4)) (by omega) hrt
 generalize rhS (l.take (e - 4)) = r at hP hP2 hrh
 obtain ⟨⟨m, p, hs, b, co, ch, sz, td, bad⟩, code⟩ := r
 have hrh' : Ev (fun k => impl_readHead.f k (strOfNums (l.take (e - 4)))) (m, p, hs, b, co, ch, sz, td, bad, code) := hrh
 refine Ev.bind hrh' ?_
 have hs1 : (0 : Int) ≤ sz := hP.2.2.2
 have hs3 : code = 0 → sz ≤ 200 := fun h => (hP2 h).1
 clear hP hP2 hrh hrh'
 show Ev _ (Zde l e m p hs ch sz code)
 unfold Zde
 by_cases q1 : code = 0
 ·simp only [if_neg (show ¬ code ≠ 0 from fun h => h q1), if_pos q1]
  have hs2 := hs3 q1
  clear hs3
  cases ch with
  | true =>
   simp only [if_true]
   refine Ev.bind (ZaJ l (by omega) hr e (by omega) (l.length + 1) (by rw [List.length_drop]; omega)) ?_
   generalize chR (l.length + 1) (l.drop e) [] = c
   obtain ⟨c0, c1, c2⟩ := c
   by_cases q2 : c2 = 0
   ·subst q2
    rw [ZbD]
    simp only [if_true]; exact Ev.now _
   ·rw [ZaI _ _ _ q2]
    simp only [if_neg q2]; exact Ev.now _
  | false =>
   simp only [Bool.false_eq_true, if_false]
   obtain ⟨z, hz⟩ : ∃ z : Nat, sz = (z : Int) := ⟨sz.toNat, by omega⟩
   subst hz
   have hw2 : wrap64 ((e : Int) + (z : Int)) = ((e + z : Nat) : Int) := by rw [wrap_id (by omega) (by omega)]; rfl
   simp only [hw2, Int.toNat_natCast]
   clear hw2 hs1 hs2 hw hb h44 hlt hrt hl hr he q1
   by_cases q2 : l.length < e + z
   ·rw [if_pos q2]
    simp only [if_pos (show ((e + z : Nat) : Int) > (l.length : Int) by omega), if_neg (show ¬ (1 : Int) = 0 by decide)]
    exact Ev.now _
   ·rw [if_neg q2]
    simp only [if_neg (show ¬ ((e + z : Nat) : Int) > (l.length : Int) by omega), if_pos (show (0 : Int) ≤ (e : Int) by omega), if_pos (show (e : Int) ≤ ((e + z : Nat) : Int) by omega), if_pos (show ((e + z : Nat) : Int) ≤ (l.length : Int) by omega)]
    have ed : (l.take (e + z)).drop e = (l.drop e).take z := by rw [List.drop_take, Nat.add_sub_cancel_left]
    rw [ed]
    exact Ev.now _
 ·simp only [if_pos (show code ≠ 0 from q1), if_neg q1]
  exact Ev.now _
def Zaj (h : S113) : List Int := bytesOf h.f0 ++ 58 :: 32 :: bytesOf h.f1
theorem Zcw : ∀ (l : List S113) (x : BA), bytesOf (htL x l) = bytesOf x ++ l.flatMap (fun h => Zaj h ++ [13, 10])
 | [], x => by simp [htL]
 | h :: r, x => by
  rw [htL, Zcw r]
  unfold Zap Zaj
  simp only [bytesOf_append, List.flatMap_cons, List.append_assoc]
  rfl
theorem ZdE : ∀ (l : List Int) (i : Nat), snB i l = true → ∀ x ∈ l, (97 ≤ x ∧ x ≤ 122) ∨ (48 ≤ x ∧ x ≤ 57) ∨ x = 45
 | [], _, _, x, hx => by simp at hx
 | c :: r, i, h, x, hx => by
  rw [snB] at h
  simp only [Bool.and_eq_true] at h
  rcases List.mem_cons.1 hx with e | e
  ·subst e
   have h1 := h.1
   unfold snC Za4 ZY at h1
   simp only [Bool.or_eq_true, Bool.and_eq_true, decide_eq_true_eq] at h1
   omega
  ·exact ZdE r (i + 1) h.2 x e
theorem Zbg {h : S113} (q : Zu h = true) : (∀ x ∈ bytesOf h.f0, (97 ≤ x ∧ x ≤ 122) ∨ (48 ≤ x ∧ x ≤ 57) ∨ x = 45) ∧ (∀ x ∈ bytesOf h.f1, 32 ≤ x ∧ x ≤ 126) ∧ h.f0.size ≤ 20 ∧ h.f1.size ≤ 60 := by
 unfold Zu Z7 Z9 Z3 at q
 simp only [Bool.and_eq_true, decide_eq_true_eq] at q
 obtain ⟨⟨q1, q2⟩, ⟨q3, q4, _⟩, _⟩ := q
 refine ⟨ZdE _ _ q1, fun x hx => ?_, by omega, by omega⟩
 have := (List.all_eq_true.1 q4) x hx
 unfold ZL at this
 simp only [Bool.and_eq_true, decide_eq_true_eq] at this
 exact this
def Zg (m p : BA) (l : List S113) (more : BA) : BA := ((((((m ++ (⟨#[32]⟩ : BA)) ++ p) ++ (⟨#[32, 72, 84, 84, 80, 47, 49, 46, 49]⟩ : BA)) ++ (⟨#[13, 10]⟩ : BA)) ++ Zag l) ++ more) ++ (⟨#[13, 10]⟩ : BA)
noncomputable def putV (m p : BA) (l : List S113) (b more : BA) (body : List Int) : List Int := if ZZ m p l b = true then (if ((Zg m p l more).size : Int) > 400 then [] else bytesOf (Zg m p l more) ++ body) else []
theorem ZX : (⟨#[32]⟩ : BA).size = 1 := rfl
theorem Zam : (⟨#[32, 72, 84, 84, 80, 47, 49, 46, 49]⟩ : BA).size = 9 := rfl
theorem ZcJ (m p : BA) (l : List S113) (b more body : BA) (hm : m.size ≤ 1048576) (hp : p.size ≤ 1048576) (hl : l.length ≤ 1048576) (hs : ∀ x ∈ l, x.f0.size ≤ 1048576 ∧ x.f1.size ≤ 1048576) (hmo : more.size ≤ 1048576) (hb : body.size ≤ 1000000000) : Ev (fun k => spec_l3Put.f k m p l b more body) (putV m p l b more (bytesOf body)) := by
 have hh := Za2 l hl hs
 unfold spec_l3Put.f putV
 refine ev_ite (fun _ => ?_) (fun q => absurd (by omega) q)
 refine ev_ite (fun _ => ?_) (fun q => absurd (by simp only [ByteArray.size_append, ZX]; omega) q)
 refine ev_ite (fun _ => ?_) (fun q => absurd (by simp only [ByteArray.size_append, ZX]; omega) q)
 refine ev_ite (fun _ => ?_) (fun q => absurd (by simp only [ByteArray.size_append, ZX, Zam]; omega) q)
 refine Ev.bind (Za3 l hl hs) ?_
 refine ev_ite (fun _ => ?_) (fun q => absurd (by simp only [ByteArray.size_append, ZX, Zam, ZaH]; omega) q)
 refine ev_ite (fun _ => ?_) (fun q => absurd (by simp only [ByteArray.size_append, ZX, Zam, ZaH]; omega) q)
 refine ev_ite (fun _ => ?_) (fun q => absurd (by simp only [ByteArray.size_append, ZX, Zam, ZaH]; omega) q)
 refine Ev.bind (ZcI m p l b hm hp (by omega) hs) (ev_iteB (fun q => ?_) (fun q => ?_))
 ·rw [if_pos q]
  refine ev_ite (fun q1 => ?_) (fun q1 => ?_)
  ·rw [if_pos (show ((Zg m p l more).size : Int) > 400 from q1)]; exact Ev.now _
  ·rw [if_neg (show ¬ ((Zg m p l more).size : Int) > 400 from q1)]
   refine ev_ite (fun _ => ?_) (fun q => absurd (by simp only [ByteArray.size_append, ZX, Zam, ZaH]; omega) q)
   refine ev_ite (fun _ => ?_) (fun q => absurd (by simp only [ByteArray.size_append, ZX, Zam, ZaH]; omega) q)
   rw [bytesOf_append]
   exact Ev.now _
 ·rw [if_neg (by rw [q]; simp)]; exact Ev.now _
theorem Zck (m p : BA) (l : List S113) (b more : BA) (body : List Int) (hm : m.size ≤ 1048576) (hp : p.size ≤ 1048576) (hl : l.length ≤ 1048576) (hs : ∀ x ∈ l, x.f0.size ≤ 1048576 ∧ x.f1.size ≤ 1048576) (hmo : more.size ≤ 1048576) (hb : body.length ≤ 1099511627776) : Ev (fun k => impl_putReq.f k m p l b more body) (putV m p l b more body) := by
 have hh := Za2 l hl hs
 unfold impl_putReq.f putV
 refine ev_ite (fun _ => ?_) (fun q => absurd (by omega) q)
 refine ev_ite (fun _ => ?_) (fun q => absurd (by simp only [ByteArray.size_append, ZX]; omega) q)
 refine ev_ite (fun _ => ?_) (fun q => absurd (by simp only [ByteArray.size_append, ZX]; omega) q)
 refine ev_ite (fun _ => ?_) (fun q => absurd (by simp only [ByteArray.size_append, ZX, Zam]; omega) q)
 refine Ev.bind (ZbJ l hl hs) ?_
 refine ev_ite (fun _ => ?_) (fun q => absurd (by simp only [ByteArray.size_append, ZX, Zam, ZaH]; omega) q)
 refine ev_ite (fun _ => ?_) (fun q => absurd (by simp only [ByteArray.size_append, ZX, Zam, ZaH]; omega) q)
 refine ev_ite (fun _ => ?_) (fun q => absurd (by simp only [ByteArray.size_append, ZX, Zam, ZaH]; omega) q)
 refine Ev.bind (ZcH m p l b hm hp (by omega) hs) (ev_iteB (fun q => ?_) (fun q => ?_))
 ·rw [if_pos q]
  refine ev_ite (fun q1 => ?_) (fun q1 => ?_)
  ·rw [if_pos (show ((Zg m p l more).size : Int) > 400 from q1)]; exact Ev.now _
  ·rw [if_neg (show ¬ ((Zg m p l more).size : Int) > 400 from q1)]
   refine ev_ite (fun _ => ?_) (fun q => absurd (by simp only [ByteArray.size_append, ZX, Zam, ZaH]; omega) q)
   simp only [Option.bind_some]
   refine ev_ite (fun _ => Ev.now _) (fun q => absurd (by rw [← size_len]; simp only [ByteArray.size_append, ZX, Zam, ZaH]; omega) q)
 ·rw [if_neg (by rw [q]; simp)]; exact Ev.now _
theorem Zeu (m p : BA) (l : List S113) (b more : BA) (body : List Int) : (putV m p l b more body).length ≤ 400 + body.length := by
 unfold putV
 split
 ·split
  ·simp
  ·rename_i h
   rw [List.length_append, ← size_len]; omega
 ·simp
def Zm (d : Nat) : Int := if d < 10 then 48 + (d : Int) else 87 + (d : Int)
def Zh (u : Nat) : List Int := if h : u < 16 then [Zm u] else Zh (u / 16) ++ [Zm (u % 16)]
theorem ZR (u : Nat) (h : 15 < u) : Zh u = Zh (u / 16) ++ [Zm (u % 16)] := by rw [Zh, dif_neg (by omega)]
theorem ZD (u : Nat) (h : u ≤ 15) : Zh u = [Zm u] := by rw [Zh, dif_pos (by omega)]
theorem Zak (d : Nat) (h : d < 16) : 48 ≤ Zm d ∧ Zm d ≤ 102 := by unfold Zm; split <;> omega
theorem ZaU (u : Nat) : ∀ x ∈ Zh u, 0 ≤ x ∧ x < 256 := by
 induction u using Nat.strongRecOn with
 | _ u ih =>
  intro x h
  rcases Nat.lt_or_ge 15 u with h9 | h9
  ·rw [ZR u h9, List.mem_append] at h
   rcases h with h | h
   ·exact ih (u / 16) (by omega) x h
   ·simp only [List.mem_cons, List.not_mem_nil, or_false] at h
    have := Zak (u % 16) (Nat.mod_lt _ (by decide)); omega
  ·rw [ZD u h9] at h
   simp only [List.mem_cons, List.not_mem_nil, or_false] at h
   have := Zak u (by omega); omega
theorem ZeG (u : Nat) (hu : u ≤ 9223372036854775807) : wrap64 (Int.tdiv (u : Int) 16) = ((u / 16 : Nat) : Int) := by
 rw [Int.tdiv_eq_ediv_of_nonneg (by omega), wrap_id (by omega) (by omega)]
 omega
theorem ZdF (u : Nat) (hu : u ≤ 9223372036854775807) : Int.tmod (u : Int) 16 = ((u % 16 : Nat) : Int) := by
 rw [Int.tmod_eq_emod_of_nonneg (by omega)]; omega
theorem Zax : ∀ (k u : Nat), u < 16 ^ (k + 1) → (Zh u).length ≤ k + 1
 | 0, u, h => by rw [ZD u (by simpa using Nat.le_of_lt_succ h)]; simp
 | k + 1, u, h => by
  rcases Nat.lt_or_ge 15 u with h9 | h9
  ·rw [ZR u h9, List.length_append]
   have := Zax k (u / 16) (by rw [Nat.pow_succ] at h; omega)
   simp; omega
  ·rw [ZD u h9]; simp
theorem Zb7 (d : Nat) (h : d < 16) : ((hexb d).toNat : Int) = Zm d := by
 unfold hexb Zm
 split
 ·rw [show (UInt8.ofNat (48 + d)).toNat = 48 + d from by simp; omega]; omega
 ·rw [show (UInt8.ofNat (87 + d)).toNat = 87 + d from by simp; omega]; omega
theorem ZeR (u : Nat) : (hexB u).map (fun b => (b.toNat : Int)) = Zh u := by
 induction u using Nat.strongRecOn with
 | _ u ih =>
  rw [hexB, Zh]
  split
  ·simp only [List.map_cons, List.map_nil, Zb7 u (by assumption)]
  ·rw [List.map_append, ih (u / 16) (by omega)]
   simp only [List.map_cons, List.map_nil, Zb7 _ (Nat.mod_lt u (by decide : 0 < 16))]
theorem ZeS (u : Nat) : (⟨(hexB u).toArray⟩ : BA) = strOfNums (Zh u) := by
 apply bytesOf_inj
 rw [bytesOf_strOfNums _ (ZaU u), bytesOf_mk, ← ZeR]
theorem Zcx (d : Nat) (h : d < 16) : spec_l1HexDigit.f ((d : Nat) : Int) = some (Zm d) := by
 unfold spec_l1HexDigit.f Zm
 by_cases h9 : d < 10
 ·rw [if_pos (by omega), if_pos h9, wrap_id (by omega) (by omega)]; congr 1; omega
 ·rw [if_neg (by omega), if_neg h9, wrap_id (x := 97 + (d : Int)) (by omega) (by omega), wrap_id (by omega) (by omega)]; congr 1; omega
theorem Zby : ∀ (n u : Nat) (x : BA), u < 16 ^ (n + 1) → u ≤ 9223372036854775807 → x.size ≤ 1000 - n → n ≤ 20 → bytesOf x = (Zh u).drop ((Zh u).length - 1) ++ (bytesOf x).drop 1 → Ev (fun k => spec_Hex.l0 k (u : Int) x) (strOfNums (Zh u ++ (bytesOf x).drop 1))
 | 0, u, x, h, hu, hx, hn, hb => by
  have h9 : u ≤ 15 := by omega
  apply ev_succ
  simp only [spec_Hex.l0, if_neg (show ¬ (u : Int) > 15 by omega)]
  rw [ZD u h9] at hb ⊢
  simp only [List.length_cons, List.length_nil, List.drop_zero, Nat.zero_add, Nat.sub_self] at hb
  rw [← hb, strOfNums_bytesOf]
  exact Ev.now _
 | n + 1, u, x, h, hu, hx, hn, hb => by
  apply ev_succ
  rcases Nat.lt_or_ge 15 u with h9 | h9
  ·have hd := Zak (u / 16 % 16) (Nat.mod_lt _ (by decide))
   have hy : bytesOf (strOfNums [Zm (u / 16 % 16)]) = [Zm (u / 16 % 16)] := bytesOf_strOfNums _ (by intro z hz; simp at hz; omega)
   have hs1 : (strOfNums [Zm (u / 16 % 16)]).size = 1 := by rw [size_len, hy]; rfl
   simp only [spec_Hex.l0, if_pos (show (u : Int) > 15 by omega), ZeG u hu, ZdF (u / 16) (by omega), Zcx _ (Nat.mod_lt _ (by decide : 0 < 16)), Option.bind_some, hs1, if_pos (show 1 + x.size ≤ 9223372036854775807 by omega)]
   have e : bytesOf (strOfNums [Zm (u / 16 % 16)] ++ x) = Zm (u / 16 % 16) :: bytesOf x := by rw [bytesOf_append, hy]; rfl
   have ih := Zby n (u / 16) (strOfNums [Zm (u / 16 % 16)] ++ x) (by rw [Nat.pow_succ] at h; omega) (by omega) (by rw [ByteArray.size_append, hs1]; omega) (by omega) (by
    rw [e]
    simp only [List.drop_succ_cons, List.drop_zero]
    rcases Nat.lt_or_ge 15 (u / 16) with h10 | h10
    ·rw [ZR (u / 16) h10]
     simp
    ·rw [ZD (u / 16) h10, Nat.mod_eq_of_lt (by omega)]
     simp)
   rw [e] at ih
   simp only [List.drop_succ_cons, List.drop_zero] at ih
   rw [ZR u h9] at hb ⊢
   simp only [List.length_append, List.length_cons, List.length_nil, Nat.zero_add, Nat.add_sub_cancel, List.drop_left] at hb
   rw [List.append_assoc, ← hb]
   exact ih
  ·simp only [spec_Hex.l0, if_neg (show ¬ (u : Int) > 15 by omega)]
   rw [ZD u h9] at hb ⊢
   simp only [List.length_cons, List.length_nil, List.drop_zero, Nat.zero_add, Nat.sub_self] at hb
   rw [← hb, strOfNums_bytesOf]
   exact Ev.now _
theorem Zbz (u : Nat) (hu : u ≤ 9223372036854775807) : Ev (fun k => spec_Hex.j0 k (u : Int)) (strOfNums (Zh u)) := by
 apply ev_succ
 simp only [spec_Hex.j0, ZdF u hu, Zcx _ (Nat.mod_lt _ (by decide : 0 < 16)), Option.bind_some]
 have hd := Zak (u % 16) (Nat.mod_lt _ (by decide))
 have hy : bytesOf (strOfNums [Zm (u % 16)]) = [Zm (u % 16)] := bytesOf_strOfNums _ (by intro z hz; simp at hz; omega)
 have hs1 : (strOfNums [Zm (u % 16)]).size = 1 := by rw [size_len, hy]; rfl
 have := Zby 18 u (strOfNums [Zm (u % 16)]) (by omega) hu (by omega) (by omega) (by
  rw [hy]
  rcases Nat.lt_or_ge 15 u with h9 | h9
  ·rw [ZR u h9]; simp
  ·rw [ZD u h9, Nat.mod_eq_of_lt (by omega)]; simp)
 rw [hy] at this
 simpa using this
theorem Zdr (n : Int) (hn : n ≤ 9223372036854775807) : Ev (fun k => spec_Hex.f k n) (strOfNums (Zh n.toNat)) := by
 unfold spec_Hex.f
 refine ev_ite (fun h => ?_) (fun h => ?_)
 ·rw [show n.toNat = 0 from by omega]
  exact Zbz 0 (by omega)
 ·have := Zbz n.toNat (by omega)
  rwa [Int.toNat_of_nonneg (by omega)] at this
theorem Zds (n : Int) (hn : n ≤ 9223372036854775807) : impl_Hex.f n = some (strOfNums (Zh n.toNat)) := by
 have e : mx n 0 = ((n.toNat : Nat) : Int) := by unfold mx; split <;> omega
 unfold impl_Hex.f
 rw [e]
 unfold strconv_FormatInt.f
 rw [if_pos ⟨by omega, by omega, rfl⟩, Option.bind_some, Int.toNat_natCast, ZeS]
def Zo (b : List Int) : List Int := if b = [] then [] else Zh b.length ++ [13, 10] ++ b ++ [13, 10]
def Zc : List Int → List Int → List Int
 | b, [] => Zo b ++ [48, 13, 10, 13, 10]
 | b, n :: r => if n < 1 then Zc b r else Zo (b.take n.toNat) ++ Zc (b.drop n.toNat) r
theorem Zdf {l : List Int} {p : Nat} {a : Int} {t : List Int} (h : l.drop p = a :: t) : rd l (p : Int) = a ∧ p < l.length ∧ l.drop (p + 1) = t := by
 have hp : p < l.length := by
  rcases Nat.lt_or_ge p l.length with h' | h'
  ·exact h'
  ·rw [List.drop_eq_nil_of_le h'] at h; cases h
 rw [List.drop_eq_getElem_cons hp] at h
 obtain ⟨h1, h2⟩ := List.cons.inj h
 refine ⟨?_, hp, h2⟩
 rw [rd, Int.toNat_natCast, List.getD_eq_getElem?_getD, List.getElem?_eq_getElem hp, Option.getD_some, h1]
theorem Zaq : bytesOf (⟨#[13, 10]⟩ : BA) = [13, 10] := rfl
theorem Zb8 : bytesOf (⟨#[48]⟩ : BA) = [48] := rfl
theorem Zar (b : List Int) (hb : b.length ≤ 1048576) : (Zo b).length ≤ b.length + 20 := by
 unfold Zo
 split
 ·simp
 ·have := Zax 5 b.length (by omega)
  simp only [List.length_append, List.length_cons, List.length_nil]
  omega
theorem ZaD (s : BA) : s.toList = ([] : List UInt8) ↔ bytesOf s = [] := Z6 s []
theorem ZS (s : BA) (j : Nat) : bytesOf (s.extract 0 j) = (bytesOf s).take j := by rw [bytesOf_extract, List.drop_zero]
theorem Z0 (s : BA) (j : Nat) : bytesOf (s.extract j s.size) = (bytesOf s).drop j := by
 rw [bytesOf_extract, List.take_of_length_le (by rw [bytesOf_length]; exact Nat.le_refl _)]
theorem Zay (u : Nat) : bytesOf (strOfNums (Zh u)) = Zh u := bytesOf_strOfNums _ (ZaU u)
theorem ZbA (u : Nat) : (strOfNums (Zh u)).size = (Zh u).length := by rw [size_len, Zay]
theorem ZaE (b : BA) (hb : b.size ≤ 1048576) : ∃ t, Ev (fun k => spec_l4Piece.f k b) t ∧ bytesOf t = Zo (bytesOf b) := by
 unfold spec_l4Piece.f
 by_cases q : b.toList = ([] : List UInt8)
 ·refine ⟨⟨#[]⟩, ?_, ?_⟩
  ·simp only [if_pos q]; exact Ev.now _
  ·rw [(ZaD b).1 q]; rfl
 ·have hl := bytesOf_length b
  have h6 := Zax 5 b.size (by omega)
  have hs := ZbA b.size
  have c2 : (⟨#[13, 10]⟩ : BA).size = 2 := rfl
  refine ⟨((strOfNums (Zh b.size) ++ (⟨#[13, 10]⟩ : BA)) ++ b) ++ (⟨#[13, 10]⟩ : BA), ?_, ?_⟩
  ·simp only [if_neg q]
   have h := Zdr (b.size : Int) (by omega)
   rw [Int.toNat_natCast] at h
   refine Ev.bind h ?_
   simp only [ByteArray.size_append, c2]
   rw [if_pos (by omega), if_pos (by omega), if_pos (by omega)]
   exact Ev.now _
  ·rw [bytesOf_append, bytesOf_append, bytesOf_append, Zay, Zaq]
   unfold Zo
   rw [if_neg (fun e => q ((ZaD b).2 e)), hl]
theorem Zah (x1 : List Int) (h1 : x1.length ≤ 1048576) : ∀ (n i : Nat) (b s : BA), x1.length - i = n → i ≤ x1.length → s.size + b.size ≤ 20 * i + 1048576 → b.size ≤ 1048576 →
  ∃ t, Ev (fun k => spec_l4Text.l0 k b x1 s (i : Int)) t ∧ bytesOf t = bytesOf s ++ Zc (bytesOf b) (x1.drop i) ∧ t.size ≤ 100000000
 | 0, i, b, s, hn, hi, hs, hb => by
  obtain ⟨p, hp, hp1⟩ := ZaE b hb
  have hl := bytesOf_length b
  have hp2 := Zar (bytesOf b) (by omega)
  have hp3 : p.size ≤ b.size + 20 := by rw [size_len, hp1]; omega
  have c1 : (⟨#[48]⟩ : BA).size = 1 := rfl
  have c2 : (⟨#[13, 10]⟩ : BA).size = 2 := rfl
  refine ⟨(((s ++ p) ++ (⟨#[48]⟩ : BA)) ++ (⟨#[13, 10]⟩ : BA)) ++ (⟨#[13, 10]⟩ : BA), ?_, ?_, ?_⟩
  ·apply ev_succ
   simp only [spec_l4Text.l0, if_neg (show ¬ (i : Int) < x1.length by omega)]
   refine Ev.bind hp ?_
   simp only [ByteArray.size_append, c1, c2]
   rw [if_pos (by omega), if_pos (by omega), if_pos (by omega), if_pos (by omega)]
   exact Ev.now _
  ·rw [List.drop_eq_nil_of_le (by omega)]
   simp only [bytesOf_append, hp1, Zaq, Zb8, Zc, List.append_assoc, List.cons_append, List.nil_append]
  ·simp only [ByteArray.size_append, c1, c2]; omega
 | n + 1, i, b, s, hn, hi, hs, hb => by
  have hil : i < x1.length := by omega
  obtain ⟨hr, _, _⟩ := Zdf (List.drop_eq_getElem_cons hil)
  have hw : wrap64 ((i : Int) + 1) = ((i + 1 : Nat) : Int) := by rw [wrap_id (by omega) (by omega)]; omega
  have hl := bytesOf_length b
  rw [List.drop_eq_getElem_cons hil]
  generalize x1[i] = m at hr
  by_cases q : m < 1
  ·obtain ⟨t, h2, h3⟩ := Zah x1 h1 n (i + 1) b s (by omega) (by omega) (by omega) hb
   refine ⟨t, ?_, by simpa only [Zc, if_pos q] using h3⟩
   apply ev_succ
   simp only [spec_l4Text.l0, if_pos (show (i : Int) < x1.length by omega), if_pos (show (0 : Int) ≤ (i : Int) by omega), hr, if_pos q, hw]
   exact h2
  ·simp only [Zc, if_neg q]
   have key : ∀ j : Nat, (bytesOf b).take j = (bytesOf b).take m.toNat → (bytesOf b).drop j = (bytesOf b).drop m.toNat → ∃ t, Ev (fun k => (spec_l4Piece.f k (b.extract 0 j)).bind fun t112 => (if s.size + t112.size ≤ 9223372036854775807 then (spec_l4Text.l0 k (b.extract j b.size) x1 (s ++ t112) (wrap64 ((i : Int) + 1))) else (none))) t ∧ bytesOf t = bytesOf s ++ (Zo ((bytesOf b).take m.toNat) ++ Zc ((bytesOf b).drop m.toNat) (x1.drop (i + 1))) ∧ t.size ≤ 100000000 := by
    intro j e1 e2
    have ht : (b.extract 0 j).size ≤ b.size := by rw [size_len, ZS, List.length_take]; omega
    have hd : (b.extract j b.size).size + (b.extract 0 j).size = b.size := by
     have e3 := bytesOf_length (b.extract 0 j)
     have e4 := bytesOf_length (b.extract j b.size)
     rw [ZS, List.length_take] at e3
     rw [Z0, List.length_drop] at e4
     omega
    obtain ⟨p, hp, hp1⟩ := ZaE (b.extract 0 j) (by omega)
    have hlt := bytesOf_length (b.extract 0 j)
    have hp2 := Zar (bytesOf (b.extract 0 j)) (by omega)
    have hp3 : p.size ≤ (b.extract 0 j).size + 20 := by rw [size_len, hp1]; omega
    obtain ⟨t, h2, h3, h4⟩ := Zah x1 h1 n (i + 1) (b.extract j b.size) (s ++ p) (by omega) (by omega) (by rw [ByteArray.size_append]; omega) (by omega)
    refine ⟨t, Ev.bind hp ?_, ?_, h4⟩
    ·simp only [if_pos (show s.size + p.size ≤ 9223372036854775807 by omega), hw]; exact h2
    ·rw [h3, bytesOf_append, hp1, ZS, Z0, e1, e2, List.append_assoc]
   by_cases q1 : m > (b.size : Int)
   ·obtain ⟨t, h2, h3⟩ := key b.size (by rw [List.take_of_length_le (by omega), List.take_of_length_le (by omega)]) (by rw [List.drop_eq_nil_of_le (by omega), List.drop_eq_nil_of_le (by omega)])
    refine ⟨t, ?_, h3⟩
    apply ev_succ
    simp only [spec_l4Text.l0, if_pos (show (i : Int) < x1.length by omega), if_pos (show (0 : Int) ≤ (i : Int) by omega), hr, if_neg q, if_pos q1, if_pos (show (0 : Int) ≤ (b.size : Int) by omega), Int.le_refl, if_true]
    exact h2
   ·obtain ⟨t, h2, h3⟩ := key m.toNat rfl rfl
    refine ⟨t, ?_, h3⟩
    apply ev_succ
    simp only [spec_l4Text.l0, if_pos (show (i : Int) < x1.length by omega), if_pos (show (0 : Int) ≤ (i : Int) by omega), hr, if_neg q, if_neg q1, if_pos (show (0 : Int) ≤ m by omega), if_pos (show m ≤ (b.size : Int) by omega)]
    exact h2
theorem Zai (b : BA) (x1 : List Int) (hb : b.size ≤ 1048576) (h1 : x1.length ≤ 1048576) : ∃ t, Ev (fun k => spec_l4Text.f k b x1) t ∧ bytesOf t = Zc (bytesOf b) x1 ∧ t.size ≤ 100000000 := by
 have := Zah x1 h1 x1.length 0 b ⟨#[]⟩ rfl (by omega) (by have c0 : (⟨#[]⟩ : BA).size = 0 := rfl; omega) hb
 exact this
def Zab : List Int → List Int → List Int
 | _, [] => [48, 13, 10, 13, 10]
 | b, n :: r => if n < 1 then Zab b r else Zo (b.take n.toNat) ++ Zab (b.drop n.toNat) r
theorem Zbh : ∀ (l b : List Int) (m : Int), (b.length : Int) ≤ m → Zab b (l ++ [m]) = Zc b l
 | [], b, m, h => by
  simp only [List.nil_append, Zab, Zc]
  split
  ·have : b = [] := List.length_eq_zero_iff.1 (by omega)
   subst this; rfl
  ·rw [List.take_of_length_le (by omega)]
 | n :: l, b, m, h => by
  simp only [List.cons_append, Zab, Zc]
  split
  ·exact Zbh l b m h
  ·rw [Zbh l _ m (by rw [List.length_drop]; omega)]
theorem Zdt (l : List Int) (h : l.length ≤ 1048576) : impl_copyInts.f l = some l := by
 unfold impl_copyInts.f
 simp only [List.nil_append, List.length_nil]
 rw [if_pos (by omega)]
theorem ZG (L : List Int) (h1 : L.length ≤ 1048577) : ∀ (n i : Nat) (b s : BA), L.length - i = n → i ≤ L.length → s.size + b.size ≤ 20 * i + 1048576 → b.size ≤ 1048576 →
  ∃ t, Ev (fun k => impl_PutChunks.l0 k b s L (L.length : Int) (i : Int)) t ∧ t = bytesOf s ++ Zab (bytesOf b) (L.drop i)
 | 0, i, b, s, hn, hi, hs, hb => by
  have c1 : (⟨#[48]⟩ : BA).size = 1 := rfl
  have c2 : (⟨#[13, 10]⟩ : BA).size = 2 := rfl
  refine ⟨_, ?_, rfl⟩
  apply ev_succ
  simp only [impl_PutChunks.l0, if_neg (show ¬ (i : Int) < L.length by omega), ByteArray.size_append, c1, c2]
  rw [if_pos (by omega), if_pos (by omega), if_pos (by omega), if_pos (by omega), List.drop_eq_nil_of_le (by omega)]
  simp only [bytesOf_append, Zaq, Zb8, Zab, List.append_assoc, List.cons_append, List.nil_append]
  exact Ev.now _
 | n + 1, i, b, s, hn, hi, hs, hb => by
  have hil : i < L.length := by omega
  obtain ⟨hr, _, _⟩ := Zdf (List.drop_eq_getElem_cons hil)
  have hw : wrap64 ((i : Int) + 1) = ((i + 1 : Nat) : Int) := by rw [wrap_id (by omega) (by omega)]; omega
  have hl := bytesOf_length b
  have c2 : (⟨#[13, 10]⟩ : BA).size = 2 := rfl
  rw [List.drop_eq_getElem_cons hil]
  generalize L[i] = m at hr
  by_cases q : m < 1
  ·obtain ⟨t, h2, h3⟩ := ZG L h1 n (i + 1) b s (by omega) (by omega) (by omega) hb
   refine ⟨t, ?_, by simpa only [Zab, if_pos q] using h3⟩
   apply ev_succ
   simp only [impl_PutChunks.l0, if_pos (show (i : Int) < L.length by omega), if_pos (show (0 : Int) ≤ (i : Int) by omega), hr, if_pos q, hw]
   exact h2
  ·simp only [Zab, if_neg q]
   by_cases q0 : b.toList = ([] : List UInt8)
   ·have hb0 := (ZaD b).1 q0
    obtain ⟨t, h2, h3⟩ := ZG L h1 n (i + 1) b s (by omega) (by omega) (by omega) hb
    refine ⟨t, ?_, ?_⟩
    ·apply ev_succ
     simp only [impl_PutChunks.l0, if_pos (show (i : Int) < L.length by omega), if_pos (show (0 : Int) ≤ (i : Int) by omega), hr, if_neg q, if_pos q0, hw]
     exact h2
    ·rw [h3, hb0]
     simp [Zo]
   ·have hb0 : bytesOf b ≠ [] := fun e => q0 ((ZaD b).2 e)
    have hb1 : 0 < b.size := by
     rcases Nat.eq_zero_or_pos b.size with e | e
     ·rw [e] at hl; exact absurd (List.length_eq_zero_iff.1 hl) hb0
     ·exact e
    obtain ⟨j, hj, hj1, hj2⟩ : ∃ j : Nat, mn m (b.size : Int) = (j : Int) ∧ j = min m.toNat b.size ∧ 1 ≤ j := ⟨min m.toNat b.size, by unfold mn; split <;> omega, rfl, by omega⟩
    have e1 : (bytesOf b).take j = (bytesOf b).take m.toNat := by rw [List.take_eq_take_iff]; omega
    have e2 : (bytesOf b).drop j = (bytesOf b).drop m.toNat := by
     rcases Nat.lt_or_ge m.toNat b.size with h | h
     ·rw [show j = m.toNat by omega]
     ·rw [List.drop_eq_nil_of_le (by omega), List.drop_eq_nil_of_le (by omega)]
    have ht : (b.extract 0 j).size = j := by rw [size_len, ZS, List.length_take]; omega
    have hd : (b.extract j b.size).size + j = b.size := by rw [size_len, Z0, List.length_drop]; omega
    have h6 := Zax 5 j (by omega)
    have hx := ZbA j
    have hh : impl_Hex.f ((j : Nat) : Int) = some (strOfNums (Zh j)) := by rw [Zds _ (by omega), Int.toNat_natCast]
    have hp : bytesOf (((strOfNums (Zh j) ++ (⟨#[13, 10]⟩ : BA)) ++ b.extract 0 j) ++ (⟨#[13, 10]⟩ : BA)) = Zo ((bytesOf b).take m.toNat) := by
     rw [bytesOf_append, bytesOf_append, bytesOf_append, Zay, Zaq, ZS, e1]
     unfold Zo
     rw [if_neg]
     ·rw [← e1, List.length_take, show min j (bytesOf b).length = j by omega]
     ·intro e
      have := congrArg List.length e
      rw [← e1, List.length_take] at this
      rw [List.length_nil] at this
      omega
    obtain ⟨t, h2, h3⟩ := ZG L h1 n (i + 1) (b.extract j b.size) (s ++ (((strOfNums (Zh j) ++ (⟨#[13, 10]⟩ : BA)) ++ b.extract 0 j) ++ (⟨#[13, 10]⟩ : BA))) (by omega) (by omega) (by simp only [ByteArray.size_append, c2]; omega) (by omega)
    refine ⟨t, ?_, ?_⟩
    ·apply ev_succ
     simp only [impl_PutChunks.l0, if_pos (show (i : Int) < L.length by omega), if_pos (show (0 : Int) ≤ (i : Int) by omega), hr, if_neg q, if_neg q0, hj, hh, Option.bind_some, Int.toNat_natCast]
     simp only [ByteArray.size_append, c2, ht, if_pos (show (strOfNums (Zh j)).size + 2 ≤ 9223372036854775807 by omega), if_pos (show (0 : Int) ≤ (j : Int) by omega), if_pos (show (j : Int) ≤ (b.size : Int) by omega), if_pos (show (strOfNums (Zh j)).size + 2 + j ≤ 9223372036854775807 by omega), if_pos (show (strOfNums (Zh j)).size + 2 + j + 2 ≤ 9223372036854775807 by omega), if_pos (show s.size + ((strOfNums (Zh j)).size + 2 + j + 2) ≤ 9223372036854775807 by omega), hw]
     exact h2
    ·rw [h3, bytesOf_append, hp, Z0, e2, List.append_assoc]
theorem Zao (b : BA) (l : List Int) (hb : b.size ≤ 1048576) (hl : l.length ≤ 1048576) : Ev (fun k => impl_PutChunks.f k b l) (Zc (bytesOf b) l) := by
 unfold impl_PutChunks.f
 rw [Zdt l hl]
 simp only [Option.bind_some, if_pos (show l.length < 17592186044416 by omega)]
 obtain ⟨t, h2, h3⟩ := ZG (l ++ [(b.size : Int)]) (by simp; omega) _ 0 b ⟨#[]⟩ rfl (by omega) (by have c0 : (⟨#[]⟩ : BA).size = 0 := rfl; omega) hb
 rw [List.drop_zero, Zbh l (bytesOf b) (b.size : Int) (by rw [bytesOf_length]; exact Int.le_refl _)] at h3
 rw [show bytesOf (⟨#[]⟩ : BA) = [] from rfl, List.nil_append] at h3
 subst h3
 exact h2
def TEl : BA := ⟨#[116, 114, 97, 110, 115, 102, 101, 114, 45, 101, 110, 99, 111, 100, 105, 110, 103, 58, 32, 99, 104, 117, 110, 107, 101, 100, 13, 10]⟩
theorem Zbi (m p : BA) (l : List S113) (b : BA) (s : List Int) (hm : m.size ≤ 1048576) (hp : p.size ≤ 1048576) (hl : l.length ≤ 1048576) (hz : ∀ x ∈ l, x.f0.size ≤ 1048576 ∧ x.f1.size ≤ 1048576) (hb : b.size ≤ 1048576) (hs : s.length ≤ 1048576) : Ev (fun k => spec_PutChunked.f k m p l b s) (putV m p l b TEl (Zc (bytesOf b) s)) := by
 obtain ⟨t, ht, ht1, ht2⟩ := Zai b s hb hs
 unfold spec_PutChunked.f
 rw [← ht1]
 exact Ev.bind ht (Ev.bind (ZcJ m p l b TEl t hm hp hl hz (by decide) (by omega)) (Ev.now _))
theorem Zbj (m p : BA) (l : List S113) (b : BA) (s : List Int) (hm : m.size ≤ 1048576) (hp : p.size ≤ 1048576) (hl : l.length ≤ 1048576) (hz : ∀ x ∈ l, x.f0.size ≤ 1048576 ∧ x.f1.size ≤ 1048576) (hb : b.size ≤ 1048576) (hs : s.length ≤ 1048576) : Ev (fun k => impl_PutChunked.f k m p l b s) (putV m p l b TEl (Zc (bytesOf b) s)) := by
 obtain ⟨t, ht, ht1, ht2⟩ := Zai b s hb hs
 have hcl : (Zc (bytesOf b) s).length ≤ 100000000 := by rw [← ht1, bytesOf_length]; exact ht2
 unfold impl_PutChunked.f
 exact Ev.bind (Zao b s hb hs) (Ev.bind (Zck m p l b TEl (Zc (bytesOf b) s) hm hp hl hz (by decide) (by omega)) (Ev.now _))
theorem Zas (d : Nat) (h : d < 16) : Zz (Zm d) = d := by
 have : ∀ d : Fin 16, Zz (Zm d.val) = (d.val : Int) := by decide
 exact this ⟨d, h⟩
theorem ZbM : ∀ (l : List Int) (i : Nat) (n d : Int), i + l.length < 4 → (∀ c ∈ l, 0 ≤ Zz c) → 0 ≤ Zz d → phL i n (l ++ [d]) = ((phL i n l).1 * 16 + Zz d, true)
 | [], i, n, d, hi, _, hd => by
  simp only [List.length_nil] at hi
  simp only [List.nil_append, phL, if_neg (show ¬ Zz d < 0 by omega), if_neg (show ¬ i ≥ 4 by omega)]
  rfl
 | c :: l, i, n, d, hi, hl, hd => by
  simp only [List.length_cons] at hi
  have hc := hl c (by simp)
  simp only [List.cons_append, phL, if_neg (show ¬ Zz c < 0 by omega), if_neg (show ¬ i ≥ 4 by omega)]
  exact ZbM l (i + 1) _ d (by omega) (fun x hx => hl x (by simp [hx])) hd
theorem Zeb (u : Nat) : ∀ c ∈ Zh u, 0 ≤ Zz c := by
 induction u using Nat.strongRecOn with
 | _ u ih =>
  intro c h
  rcases Nat.lt_or_ge 15 u with h9 | h9
  ·rw [ZR u h9, List.mem_append] at h
   rcases h with h | h
   ·exact ih (u / 16) (by omega) c h
   ·simp only [List.mem_cons, List.not_mem_nil, or_false] at h
    rw [h, Zas _ (Nat.mod_lt _ (by decide))]; omega
  ·rw [ZD u h9] at h
   simp only [List.mem_cons, List.not_mem_nil, or_false] at h
   rw [h, Zas _ (by omega)]; omega
theorem Zdg : ∀ (k u : Nat), k ≤ 3 → u < 16 ^ (k + 1) → phL 0 0 (Zh u) = ((u : Int), true)
 | k, u, hk, hu => by
  rcases Nat.lt_or_ge 15 u with h9 | h9
  ·match k, hk, hu with
   | 0, _, hu => omega
   | k + 1, hk, hu =>
    have hu2 : u / 16 < 16 ^ (k + 1) := by rw [Nat.pow_succ] at hu; omega
    have hl := Zax k (u / 16) hu2
    rw [ZR u h9, ZbM _ 0 0 _ (by omega) (Zeb _) (by rw [Zas _ (Nat.mod_lt _ (by decide))]; omega), Zdg k (u / 16) (by omega) hu2, Zas _ (Nat.mod_lt _ (by decide))]
    simp only [Prod.mk.injEq, and_true]
    omega
  ·rw [ZD u h9]
   have := ZbM [] 0 0 (Zm u) (by simp) (by simp) (by rw [Zas _ (by omega)]; omega)
   rw [List.nil_append] at this
   rw [this, Zas _ (by omega)]
   simp [phL]
theorem ZeZ (a t : List Int) (h : ∀ x ∈ a, x ≠ 13) : tw (a ++ 13 :: t) = a ∧ dw (a ++ 13 :: t) = 13 :: t := by
 constructor
 ·unfold tw; rw [List.takeWhile_append_of_pos (fun x hx => by simp [h x hx])]; simp
 ·unfold dw; rw [List.dropWhile_append_of_pos (fun x hx => by simp [h x hx])]; simp
theorem Zec (u : Nat) : ∀ x ∈ Zh u, x ≠ 13 := by
 intro x hx e
 have := Zeb u x hx
 rw [e] at this
 exact absurd this (by decide)
theorem Zb9 (u : Nat) (hu : u < 65536) (t : List Int) : Za (Zh u ++ 13 :: 10 :: t) = ((u : Int), t, 0) := by
 obtain ⟨h1, h2⟩ := ZeZ (Zh u) (10 :: t) (Zec u)
 unfold Za
 rw [h1, h2, Zdg 3 u (by omega) (by omega), if_neg (by simp), if_pos rfl]
 simp [Zb]
theorem Zcy (y : List Int) : Zb (13 :: 10 :: y) = (0, y) := by simp [Zb]
theorem Zcz (n : Nat) (b y acc : List Int) (hb : b ≠ []) (hl : acc.length + b.length ≤ 200) : chR (n + 1) (Zo b ++ y) acc = chR n y (acc ++ b) := by
 have e : Zo b ++ y = Zh b.length ++ 13 :: 10 :: (b ++ 13 :: 10 :: y) := by unfold Zo; rw [if_neg hb]; simp
 have hp : 0 < b.length := List.length_pos_iff.2 hb
 rw [e, chR, Zb9 _ (by omega)]
 simp only [Int.toNat_natCast]
 rw [if_neg (by simp), if_neg (by omega), if_neg (by rw [List.length_append]; omega), List.drop_left, List.take_left, Zcy]
 simp only []
 rw [if_neg (by simp), if_neg (by omega)]
theorem Zdh (n : Nat) (y acc : List Int) (hl : acc.length ≤ 200) : chR (n + 1) (48 :: 13 :: 10 :: 13 :: 10 :: y) acc = (acc, y, 0) := by
 have e : Za (48 :: 13 :: 10 :: 13 :: 10 :: y) = (0, 13 :: 10 :: y, 0) := by
  have := Zb9 0 (by omega) (13 :: 10 :: y)
  rw [ZD 0 (by omega)] at this
  exact this
 rw [chR, e]
 simp only [Int.toNat_zero]
 rw [if_neg (by simp), if_neg (by omega), if_neg (by simp), List.drop_zero, Zcy]
 simp only []
 simp
theorem Zca : Zo [] = [] := rfl
theorem Zcb {b : List Int} (hb : b ≠ []) : 0 < (Zo b).length := by
 unfold Zo; rw [if_neg hb]; simp only [List.length_append, List.length_cons]; omega
theorem ZU : ∀ (sizes b acc y : List Int) (n : Nat), (Zc b sizes).length < n → acc.length + b.length ≤ 200 → chR n (Zc b sizes ++ y) acc = (acc ++ b, y, 0)
 | [], b, acc, y, n, hn, hl => by
  rw [Zc] at hn ⊢
  rw [List.length_append, List.length_cons] at hn
  by_cases q : b = []
  ·subst q
   obtain ⟨m, rfl⟩ : ∃ m, n = m + 1 := ⟨n - 1, by omega⟩
   rw [Zca]
   simp only [List.nil_append, List.append_nil]
   exact Zdh m y acc (by simpa using hl)
  ·have hp := Zcb q
   obtain ⟨m, rfl⟩ : ∃ m, n = m + 1 + 1 := ⟨n - 2, by omega⟩
   rw [List.append_assoc, Zcz _ b _ acc q hl]
   exact Zdh m y (acc ++ b) (by rw [List.length_append]; exact hl)
 | s :: r, b, acc, y, n, hn, hl => by
  rw [Zc] at hn ⊢
  by_cases q : s < 1
  ·rw [if_pos q] at hn ⊢
   exact ZU r b acc y n hn hl
  ·rw [if_neg q] at hn ⊢
   rw [List.length_append] at hn
   have hd : (b.take s.toNat).length + (b.drop s.toNat).length = b.length := by rw [← List.length_append, List.take_append_drop]
   by_cases q1 : b.take s.toNat = []
   ·have hb : b.drop s.toNat = b := by have := List.take_append_drop s.toNat b; rw [q1, List.nil_append] at this; exact this
    rw [q1, Zca, List.nil_append, hb]
    rw [q1, hb] at hn
    exact ZU r b acc y n (by omega) hl
   ·have hp := Zcb q1
    obtain ⟨m, rfl⟩ : ∃ m, n = m + 1 := ⟨n - 1, by omega⟩
    rw [List.append_assoc, Zcz _ _ _ acc q1 (by omega), ZU r (b.drop s.toNat) (acc ++ b.take s.toNat) y m (by omega) (by rw [List.length_append]; omega), List.append_assoc, List.take_append_drop]
theorem ZeH (sizes b : List Int) (n i : Nat) (hi : i < (Zc b sizes).length) (hn : i < n) (hb : b.length ≤ 200) : (chR n ((Zc b sizes).take i) []).2.2 = 1 := by
 have hw := ZU sizes b [] [] ((Zc b sizes).length + 1) (by omega) (by simpa using hb)
 rw [List.append_nil] at hw
 obtain ⟨k0, kc, _⟩ := ZdA n ((Zc b sizes).length + 1) ((Zc b sizes).take i) [] ((Zc b sizes).drop i) (by rw [List.length_take]; omega) (by rw [List.take_append_drop]; omega)
 rw [List.take_append_drop, hw] at k0 kc
 by_cases c0 : (chR n ((Zc b sizes).take i) []).2.2 = 0
 ·have := congrArg (fun r => r.2.1.length) (k0 c0)
  simp only [List.length_nil, List.length_append, List.length_drop] at this
  omega
 ·by_cases c1 : (chR n ((Zc b sizes).take i) []).2.2 = 1
  ·exact c1
  ·have := kc c0 c1
   exact absurd this.symm c0
def Zac (m p : BA) : List Int := bytesOf m ++ 32 :: (bytesOf p ++ 32 :: ZaT)
def ZC (m p : BA) (hs : List S113) (ex : List (List Int)) : List (List Int) := Zac m p :: (hs.map Zaj ++ ex)
theorem Zcc : ∀ (ls : List (List Int)) (a : List Int), Zs (a :: ls) ++ [13, 10] = (a :: ls).flatMap (fun x => x ++ [13, 10])
 | [], a => by simp [Zs]
 | b :: r, a => by
  have ih := Zcc r b
  rw [Zs, List.flatMap_cons, ← ih]; simp
theorem ZcK (m p : BA) (hs : List S113) (more : BA) (ex : List (List Int)) (hm : bytesOf more = ex.flatMap (fun x => x ++ [13, 10])) : bytesOf (Zg m p hs more) = Zs (ZC m p hs ex) ++ [13, 10, 13, 10] := by
 have h1 : Zs (ZC m p hs ex) ++ [13, 10, 13, 10] = (Zs (ZC m p hs ex) ++ [13, 10]) ++ [13, 10] := by simp
 rw [h1]
 unfold ZC
 rw [Zcc]
 unfold Zg Zag Zac
 simp only [bytesOf_append, Zcw, hm, List.flatMap_cons, List.flatMap_append, List.flatMap_map, List.append_assoc, List.cons_append]
 rfl
theorem Zal {m p : BA} {hs : List S113} {b : BA} (q : ZZ m p hs b = true) : (∀ x ∈ bytesOf m, 65 ≤ x ∧ x ≤ 90) ∧ (∀ x ∈ bytesOf p, 33 ≤ x ∧ x ≤ 126) ∧ ZP m = true ∧ Zq p = true ∧ hs.length ≤ 8 ∧ b.size ≤ 200 ∧ (∀ h ∈ hs, Zu h = true) ∧ m.size ≤ 9 ∧ p.size ≤ 80 := by
 unfold ZZ at q
 simp only [Bool.and_eq_true, decide_eq_true_eq] at q
 obtain ⟨q1, q2, q3, q4⟩ := q
 have q1' := q1
 have q2' := q2
 unfold ZP Z3 at q1'
 unfold Zq Z3 at q2'
 unfold Zbq Zd at q3
 simp only [Bool.and_eq_true, decide_eq_true_eq] at q1' q2' q3
 refine ⟨fun x hx => ?_, fun x hx => ?_, q1, q2, by omega, by omega, List.all_eq_true.1 q3.1, by omega, by omega⟩
 ·have := (List.all_eq_true.1 q1'.1) x hx
  unfold Zy at this
  simp only [Bool.and_eq_true, decide_eq_true_eq] at this
  exact this
 ·have := (List.all_eq_true.1 q2'.2) x hx
  unfold ZT at this
  simp only [Bool.and_eq_true, decide_eq_true_eq] at this
  exact this
theorem Zdi (m p : BA) : ∀ x ∈ Zac m p, 0 ≤ x ∧ x < 256 := by
 intro x hx
 unfold Zac at hx
 rcases List.mem_append.1 hx with h | h
 ·exact bytesOf_range _ x h
 ·rcases List.mem_cons.1 h with h | h
  ·omega
  ·rcases List.mem_append.1 h with h | h
   ·exact bytesOf_range _ x h
   ·rcases List.mem_cons.1 h with h | h
    ·omega
    ·exact (by decide : ∀ x ∈ ZaT, 0 ≤ x ∧ x < 256) x h
theorem ZbB {m p : BA} {hs : List S113} {b : BA} {ex : List (List Int)} (q : ZZ m p hs b = true) (hx : ∀ a ∈ ex, a ≠ [] ∧ ∀ x ∈ a, x ≠ 13) : ∀ a ∈ ZC m p hs ex, a ≠ [] ∧ ∀ x ∈ a, x ≠ 13 := by
 obtain ⟨h1, h2, _, _, _, _, hh, _⟩ := Zal q
 intro a ha
 unfold ZC at ha
 rcases List.mem_cons.1 ha with e | e
 ·subst e
  refine ⟨by simp [Zac], fun x hx => ?_⟩
  unfold Zac at hx
  rcases List.mem_append.1 hx with h | h
  ·have := h1 x h; omega
  ·rcases List.mem_cons.1 h with h | h
   ·omega
   ·rcases List.mem_append.1 h with h | h
    ·have := h2 x h; omega
    ·rcases List.mem_cons.1 h with h | h
     ·omega
     ·exact (by decide : ∀ x ∈ ZaT, x ≠ 13) x h
 ·rcases List.mem_append.1 e with e | e
  ·obtain ⟨h, hm, rfl⟩ := List.mem_map.1 e
   have hf := Zbg (hh h hm)
   refine ⟨by simp [Zaj], fun x hx => ?_⟩
   unfold Zaj at hx
   rcases List.mem_append.1 hx with h | h
   ·have := hf.1 x h; omega
   ·rcases List.mem_cons.1 h with h | h
    ·omega
    ·rcases List.mem_cons.1 h with h | h
     ·omega
     ·have := hf.2.1 x h; omega
  ·exact hx a e
theorem Zcl (c : Int) : ∀ (a cur r : List Int), (∀ x ∈ a, x ≠ c) → ZJ c cur (a ++ c :: r) = (cur ++ a) :: ZJ c [] r
 | [], cur, r, _ => by simp [ZJ]
 | x :: a, cur, r, h => by
  rw [List.cons_append, ZJ, if_neg (h x (by simp)), Zcl c a _ r (fun y hy => h y (by simp [hy]))]
  simp
theorem ZcA (c : Int) : ∀ (a cur : List Int), (∀ x ∈ a, x ≠ c) → ZJ c cur a = [cur ++ a]
 | [], cur, _ => by simp [ZJ]
 | x :: a, cur, h => by
  rw [ZJ, if_neg (h x (by simp)), ZcA c a _ (fun y hy => h y (by simp [hy]))]
  simp
theorem Zdj {m p : BA} (h1 : ∀ x ∈ bytesOf m, 65 ≤ x ∧ x ≤ 90) (h2 : ∀ x ∈ bytesOf p, 33 ≤ x ∧ x ≤ 126) : Zj 32 (bytesOf (strOfNums (Zac m p))) = [m, p, strOfNums ZaT] := by
 rw [bytesOf_strOfNums _ (Zdi m p)]
 unfold Zj Zac
 rw [Zcl 32 (bytesOf m) [] _ (fun x hx => by have := h1 x hx; omega), Zcl 32 (bytesOf p) [] _ (fun x hx => by have := h2 x hx; omega), ZcA 32 ZaT [] (by decide)]
 simp only [List.nil_append, List.map_cons, List.map_nil, strOfNums_bytesOf]
theorem Zed (c : Int) : ∀ (a r : List Int), (∀ x ∈ a, x ≠ c) → tkC c (a ++ c :: r) = a ∧ drC c (a ++ c :: r) = c :: r
 | [], r, _ => by simp [tkC, drC]
 | x :: a, r, h => by
  have hx := h x (by simp)
  obtain ⟨i1, i2⟩ := Zed c a r (fun y hy => h y (by simp [hy]))
  unfold tkC drC at *
  refine ⟨?_, ?_⟩
  ·rw [List.cons_append, List.takeWhile_cons, if_pos (by simpa using hx), i1]
  ·rw [List.cons_append, List.dropWhile_cons, if_pos (by simpa using hx), i2]
theorem Zcd : ∀ (l : List Int), (∀ x ∈ l, Zy x = false) → ZV l = l
 | [], _ => rfl
 | x :: l, h => by
  have := Zcd l (fun y hy => h y (by simp [hy]))
  unfold ZV at *
  rw [List.map_cons, this]
  unfold ZaG
  rw [if_neg (by rw [h x (by simp)]; simp)]
theorem Zdu (s : BA) (h : ∀ x ∈ bytesOf s, Zy x = false) : ZF s = s := by
 unfold ZF; rw [Zcd _ h, strOfNums_bytesOf]
theorem ZdU (l : List Int) : Zl (Zi (32 :: l)) = Zl (Zi l) := by
 have e : Zi (32 :: l) = if Zi l = [] then [] else 32 :: Zi l := by
  unfold Zi
  rw [List.reverse_cons, List.dropWhile_append]
  cases hd : l.reverse.dropWhile Zn with
  | nil => simp [List.dropWhile, show Zn 32 = true from rfl]
  | cons a t => simp
 rw [e]
 split
 ·rename_i h; rw [h]
 ·unfold Zl
  rw [List.dropWhile_cons, if_pos (by rfl)]
theorem ZeI (v : BA) : Z2 (strOfNums (32 :: bytesOf v)) = Z2 v := by
 unfold Z2
 rw [bytesOf_strOfNums (32 :: bytesOf v) (fun x hx => by rcases List.mem_cons.1 hx with h | h; omega; exact bytesOf_range _ x h), ZdU]
theorem Zce (n : BA) (v : BA) (l : List Int) (hl : l = bytesOf n ++ 58 :: 32 :: bytesOf v) (hn : ∀ x ∈ bytesOf n, x ≠ 58 ∧ Zy x = false) : drC 58 (bytesOf (strOfNums l)) ≠ [] ∧ Zf (strOfNums l) = n ∧ ZQ (strOfNums l) = Z2 v := by
 have hr : ∀ x ∈ l, 0 ≤ x ∧ x < 256 := by
  intro x hx
  rw [hl] at hx
  rcases List.mem_append.1 hx with h | h
  ·exact bytesOf_range _ x h
  ·rcases List.mem_cons.1 h with h | h
   ·omega
   ·rcases List.mem_cons.1 h with h | h
    ·omega
    ·exact bytesOf_range _ x h
 obtain ⟨t1, t2⟩ := Zed 58 (bytesOf n) (32 :: bytesOf v) (fun x hx => (hn x hx).1)
 unfold Zf ZQ
 rw [bytesOf_strOfNums l hr, hl, t1, t2, strOfNums_bytesOf, Zdu n (fun x hx => (hn x hx).2), List.tail_cons, ZeI]
 exact ⟨by simp, rfl, rfl⟩
theorem ZdV {x : Int} (h : (97 ≤ x ∧ x ≤ 122) ∨ (48 ≤ x ∧ x ≤ 57) ∨ x = 45) : x ≠ 58 ∧ Zy x = false := by
 refine ⟨by omega, ?_⟩
 unfold Zy
 rw [Bool.and_eq_false_iff, decide_eq_false_iff_not, decide_eq_false_iff_not]; omega
theorem ZdW {h : S113} (q : Zu h = true) (m p : BA) (hs : List S113) (b co : BA) (ch : Bool) (sz : Int) (td bad : Bool) : ZK (strOfNums (Zaj h)) (m, p, hs, b, co, ch, sz, td, bad) = (m, p, hs ++ [h], b, co, ch, sz, td, bad) := by
 have hf := Zbg q
 obtain ⟨l1, l2, l3⟩ := Zce h.f0 h.f1 (Zaj h) rfl (fun x hx => ZdV (hf.1 x hx))
 unfold Zu ZO at q
 simp only [Bool.and_eq_true, decide_eq_true_eq] at q
 obtain ⟨q1, q2, q3, q4⟩ := q
 have ht : Z2 h.f1 = h.f1 := by
  have := q2
  unfold Z9 at this
  simp only [Bool.and_eq_true, beq_iff_eq] at this
  have h2 := this.2.2
  rw [Lib.toList_data, Lib.toList_data] at h2
  exact ByteArray.ext (Array.toList_inj.1 h2)
 unfold ZK
 simp only []
 rw [l2, l3, ht, if_pos ⟨l1, q1, q2⟩, if_neg]
 rintro (e | e)
 ·exact q3 ((Z6 h.f0 _).2 e)
 ·exact q4 ((Z6 h.f0 _).2 e)
theorem Zcf : ∀ (hs : List S113) (ls : List BA) (m p : BA) (acc : List S113) (b co : BA) (ch : Bool) (sz : Int) (td bad : Bool), (∀ h ∈ hs, Zu h = true) →
  Z4 (hs.map (fun h => strOfNums (Zaj h)) ++ ls) (m, p, acc, b, co, ch, sz, td, bad) = Z4 ls (m, p, acc ++ hs, b, co, ch, sz, td, bad)
 | [], ls, m, p, acc, b, co, ch, sz, td, bad, _ => by simp
 | h :: r, ls, m, p, acc, b, co, ch, sz, td, bad, hh => by
  have ih := Zcf r ls m p (acc ++ [h]) b co ch sz td bad (fun y hy => hh y (by simp [hy]))
  rw [List.map_cons, List.cons_append]
  show Z4 _ (ZK (strOfNums (Zaj h)) (m, p, acc, b, co, ch, sz, td, bad)) = _
  rw [ZdW (hh h (by simp)), ih]; simp
theorem ZeJ {m p : BA} {hs : List S113} {b : BA} {ex : List (List Int)} (q : ZZ m p hs b = true) (hx : ∀ a ∈ ex, a ≠ [] ∧ ∀ x ∈ a, x ≠ 13) (st : Zp) (hst : Z4 (ex.map strOfNums) (m, p, hs, ⟨#[]⟩, ⟨#[]⟩, false, 0, false, false) = st) : rhS (Zs (ZC m p hs ex)) = (st, Zaa st) := by
 obtain ⟨h1, h2, h3, h4, _, _, hh, _⟩ := Zal q
 have hL : Ze (Zs (ZC m p hs ex)) = (ZC m p hs ex).map strOfNums := by
  unfold Ze
  rw [Zcq _ (by unfold ZC; simp) (fun a ha => (ZbB q hx a ha).2)]
 have hp := Zdj h1 h2
 have hg : ((ZC m p hs ex).map strOfNums).getD 0 ByteArray.empty = strOfNums (Zac m p) := rfl
 have hd : ((ZC m p hs ex).map strOfNums).drop 1 = hs.map (fun h => strOfNums (Zaj h)) ++ ex.map strOfNums := by
  unfold ZC
  rw [List.map_cons, List.drop_one, List.tail_cons, List.map_append, List.map_map]
  rfl
 have hr := Zcf hs (ex.map strOfNums) m p [] (⟨#[]⟩ : BA) (⟨#[]⟩ : BA) false 0 false false hh
 rw [List.nil_append, hst] at hr
 unfold rhS
 rw [hL, hg, hd, hp]
 simp only [List.getD_cons_zero, List.getD_cons_succ]
 rw [hr, if_pos ⟨rfl, bytesOf_strOfNums ZaT (by decide), by rw [h3, h4]; rfl⟩]
theorem Zev {m p : BA} {hs : List S113} {b more : BA} {ex : List (List Int)} (q : ZZ m p hs b = true) (hmo : bytesOf more = ex.flatMap (fun x => x ++ [13, 10])) (hx : ∀ a ∈ ex, a ≠ [] ∧ ∀ x ∈ a, x ≠ 13) (hz : (Zg m p hs more).size ≤ 400)
  (co : BA) (ch : Bool) (sz : Int) (td : Bool) (hst : Z4 (ex.map strOfNums) (m, p, hs, ⟨#[]⟩, ⟨#[]⟩, false, 0, false, false) = (m, p, hs, ⟨#[]⟩, co, ch, sz, td, false)) (hco : ch = true → bytesOf (ZF co) = CHb) (hsz : sz ≤ 200) (y : List Int) :
  ZbL (bytesOf (Zg m p hs more) ++ y) = Zde (bytesOf (Zg m p hs more) ++ y) (bytesOf (Zg m p hs more)).length m p hs ch sz 0 := by
 have hb := ZcK m p hs more ex hmo
 have hl : (bytesOf (Zg m p hs more)).length = (Zs (ZC m p hs ex)).length + 4 := by rw [hb]; simp
 have hl4 := bytesOf_length (Zg m p hs more)
 have hE : Zk (bytesOf (Zg m p hs more) ++ y) = ((bytesOf (Zg m p hs more)).length : Int) := by
  unfold Zk
  rw [List.take_append, List.take_of_length_le (by omega)]
  have h1 := Zcr (ZC m p hs ex) 0 (y.take (400 - (bytesOf (Zg m p hs more)).length)) (by unfold ZC; simp) (ZbB q hx)
  rw [hl, Nat.zero_add] at *
  rw [hb, List.append_assoc]
  exact h1
 have hS := ZeJ q hx _ hst
 have hC : Zaa (m, p, hs, (⟨#[]⟩ : BA), co, ch, sz, td, false) = 0 := by
  rw [Zcv, if_neg (by simp), if_neg (by have := (Zal q).2.2.2.2.1; omega), if_neg (fun h => h.2 (hco h.1)), if_neg (by omega)]
 rw [hC] at hS
 have hT : (bytesOf (Zg m p hs more) ++ y).take ((bytesOf (Zg m p hs more)).length - 4) = Zs (ZC m p hs ex) := by
  rw [hl, Nat.add_sub_cancel, hb, List.append_assoc, List.take_left]
 unfold ZbL
 rw [hE, if_neg (by omega), Int.toNat_natCast, hT, hS]
 rfl
theorem ZeK {m p : BA} {hs : List S113} {b more : BA} {body : List Int} (h : putV m p hs b more body ≠ []) : ZZ m p hs b = true ∧ (Zg m p hs more).size ≤ 400 ∧ putV m p hs b more body = bytesOf (Zg m p hs more) ++ body := by
 unfold putV at h ⊢
 by_cases q : ZZ m p hs b = true
 ·rw [if_pos q] at h ⊢
  by_cases q1 : ((Zg m p hs more).size : Int) > 400
  ·rw [if_pos q1] at h; exact absurd rfl h
  ·rw [if_neg q1] at h ⊢
   exact ⟨q, by omega, rfl⟩
 ·rw [if_neg q] at h; exact absurd rfl h
theorem Zew (a : List Int) (st st' : Zp) (h : ZK (strOfNums a) st = st') : Z4 ([a].map strOfNums) st = st' := by
 unfold Z4
 simp only [List.map_cons, List.map_nil, List.foldl_cons, List.foldl_nil]
 exact h
theorem Zee {m p : BA} {hs : List S113} {b : BA} {s : List Int} (h : putV m p hs b TEl (Zc (bytesOf b) s) ≠ []) (y : List Int) : ZbL (putV m p hs b TEl (Zc (bytesOf b) s) ++ y) = (m, p, hs, b, ((putV m p hs b TEl (Zc (bytesOf b) s)).length : Int), 0) := by
 obtain ⟨q, hz, e⟩ := ZeK h
 have hb2 : b.size ≤ 200 := (Zal q).2.2.2.2.2.1
 have hst : ZK (strOfNums (TEb ++ [58, 32] ++ CHb)) (m, p, hs, ⟨#[]⟩, ⟨#[]⟩, false, 0, false, false) = (m, p, hs, ⟨#[]⟩, strOfNums CHb, true, 0, false, false) := by
  have hbc : bytesOf (strOfNums TEb) = TEb := bytesOf_strOfNums TEb (by decide)
  obtain ⟨l1, l2, l3⟩ := Zce (strOfNums TEb) (strOfNums CHb) (TEb ++ [58, 32] ++ CHb) (by rw [bytesOf_strOfNums CHb (by decide), hbc]; rfl) (by rw [hbc]; decide)
  have ht : Z2 (strOfNums CHb) = strOfNums CHb := by unfold Z2; rw [bytesOf_strOfNums CHb (by decide)]; rfl
  have hv : Z9 (strOfNums CHb) = true := by
   unfold Z9
   rw [ht, bytesOf_strOfNums CHb (by decide), strOfNums_size, beq_self_eq_true]
   decide
  unfold ZK
  simp only []
  rw [l2, l3, ht, if_pos ⟨l1, by decide, hv⟩, if_pos (.inr hbc)]
  unfold ZaR
  simp only []
  rw [if_neg (by decide), if_pos hbc]
 rw [e, List.append_assoc]
 rw [Zev q (ex := [TEb ++ [58, 32] ++ CHb]) (by rfl) (by
  intro a ha
  rw [List.mem_singleton] at ha
  subst ha
  exact ⟨by decide, by decide⟩) hz (strOfNums CHb) true 0 false (Zew _ _ _ hst) (fun _ => by decide) (by omega) (Zc (bytesOf b) s ++ y)]
 have hw := ZU s (bytesOf b) [] y ((bytesOf (Zg m p hs TEl) ++ (Zc (bytesOf b) s ++ y)).length + 1) (by simp only [List.length_append]; omega) (by rw [bytesOf_length]; simpa using hb2)
 unfold Zde
 rw [if_neg (by simp), if_pos rfl, List.drop_left, hw]
 simp only [if_true, List.nil_append, strOfNums_bytesOf, Prod.mk.injEq, true_and, and_true]
 simp only [List.length_append]; omega
theorem ZdG (x : Int) : 0 ≤ Go.bits .and .i64 x 255 ∧ Go.bits .and .i64 x 255 ≤ 255 := by
 have h2 : (BitVec.ofInt 64 x).toNat &&& 255 ≤ 255 := Nat.and_le_right
 have h : Go.bits .and .i64 x 255 = IntKind.i64.wrap (((BitVec.ofInt 64 x &&& BitVec.ofInt 64 255).toNat : Nat) : Int) := rfl
 have e : (BitVec.ofInt 64 255).toNat = 255 := by decide
 rw [h, BitVec.toNat_and, e, IntKind.wrap_i64]
 omega
def Dr {α : Type} (f : List Int → Int → Int → Option (α × Int × Int)) (P : α → Prop) : Prop :=
 ∀ (b : List Int) (i h : Int), b.length ≤ 1048576 → 0 ≤ i → i ≤ b.length → ∃ x i' h', f b i h = some (x, i', h') ∧ P x ∧ 0 ≤ i' ∧ i' ≤ b.length
theorem Zex (l : List Int) (hl : l.length ≤ 1048576) : ∃ h, Ev (fun k => spec_l1New.f k l) (l, (0 : Int), h) := by
 have key : ∀ n i (x : Int), l.length - i = n → ∃ h, Ev (fun k => spec_l1New.l0 k l x (i : Int)) (l, (0 : Int), h) := by
  intro n
  induction n with
  | zero =>
   intro i x hn
   refine ⟨x, ?_⟩
   apply ev_succ; simp only [spec_l1New.l0, if_neg (show ¬ (i : Int) < (l.length : Int) by omega)]; exact Ev.now _
  | succ n ih =>
   intro i x hn
   by_cases h4 : (i : Int) < 4000
   ·obtain ⟨h, hh⟩ := ih (i + 1) (Go.bits .and .i64 (wrap64 ((wrap64 ((wrap64 (x * 137)) + (wrap64 (rd l i)))) + 11)) 1073741823) (by omega)
    refine ⟨h, ?_⟩
    apply ev_succ
    simp only [spec_l1New.l0, if_pos (show (i : Int) < (l.length : Int) by omega), if_pos h4, if_pos (show (0 : Int) ≤ (i : Int) by omega), wrap_id (x := (i : Int) + 1) (by omega) (by omega)]
    exact hh
   ·refine ⟨x, ?_⟩
    apply ev_succ; simp only [spec_l1New.l0, if_pos (show (i : Int) < (l.length : Int) by omega), if_neg h4]; exact Ev.now _
 exact key _ 0 _ rfl
theorem Zbk : Dr spec_l1Byte.f (fun x => 0 ≤ x ∧ x ≤ 255) := by
 intro b i h hb h0 h1
 unfold spec_l1Byte.f
 by_cases q : i < (b.length : Int)
 ·rw [if_pos q, if_pos h0]
  exact ⟨_, _, _, rfl, ZdG _, by rw [wrap_id (by omega) (by omega)]; omega, by rw [wrap_id (by omega) (by omega)]; omega⟩
 ·rw [if_neg q]
  exact ⟨_, _, _, rfl, ZdG _, h0, h1⟩
theorem ZaV (x n : Int) (hx : 0 ≤ x) (hn : 0 < n) : 0 ≤ Int.tmod x n ∧ Int.tmod x n < n := by
 rw [Int.tmod_eq_emod_of_nonneg hx]
 exact ⟨Int.emod_nonneg _ (by omega), Int.emod_lt_of_pos _ hn⟩
theorem Zv (n : Int) : Dr (fun b i h => spec_l1Below.f b i h n) (fun x => 0 ≤ x ∧ (0 < n → x < n)) := by
 intro b i h hb h0 h1
 show ∃ x i' h', spec_l1Below.f b i h n = some (x, i', h') ∧ _
 unfold spec_l1Below.f
 by_cases q : n ≤ 0
 ·rw [if_pos q]
  exact ⟨_, _, _, rfl, ⟨by omega, by omega⟩, h0, h1⟩
 ·rw [if_neg q]
  obtain ⟨x, i1, e1, f1, p1, a1, b1⟩ := Zbk b i h hb h0 h1
  by_cases q1 : n ≤ 256
  ·rw [if_pos q1, f1]
   simp only [Option.bind_some, if_neg (show ¬ n = 0 by omega)]
   have := ZaV x n p1.1 (by omega)
   exact ⟨_, _, _, rfl, ⟨this.1, fun _ => this.2⟩, a1, b1⟩
  ·rw [if_neg q1, f1]
   obtain ⟨y, i2, e2, f2, p2, a2, b2⟩ := Zbk b i1 e1 hb a1 b1
   obtain ⟨z, i3, e3, f3, p3, a3, b3⟩ := Zbk b i2 e2 hb a2 b2
   simp only [Option.bind_some, f2, f3, if_neg (show ¬ n = 0 by omega)]
   rw [wrap_id (x := x * 65536) (by omega) (by omega), wrap_id (x := y * 256) (by omega) (by omega), wrap_id (x := x * 65536 + y * 256) (by omega) (by omega), wrap_id (x := x * 65536 + y * 256 + z) (by omega) (by omega)]
   have := ZaV (x * 65536 + y * 256 + z) n (by omega) (by omega)
   exact ⟨_, _, _, rfl, ⟨this.1, fun _ => this.2⟩, a3, b3⟩
theorem Zr (l : List BA) (hl : 0 < l.length) : Dr (fun b i h => spec_l1Str.f b i h l) (fun x => x ∈ l) := by
 intro b i h hb h0 h1
 obtain ⟨x, i1, e1, f1, p1, a1, b1⟩ := Zv (l.length : Int) b i h hb h0 h1
 have f1' : spec_l1Below.f b i h (l.length : Int) = some (x, i1, e1) := f1
 have hx := p1.2 (by omega)
 show ∃ x i' h', spec_l1Str.f b i h l = some (x, i', h') ∧ _
 unfold spec_l1Str.f
 rw [f1']
 simp only [Option.bind_some, if_pos p1.1, if_pos hx]
 refine ⟨_, _, _, rfl, ?_, a1, b1⟩
 have hn : x.toNat < l.length := by omega
 rw [rdOf, List.getD_eq_getElem?_getD, List.getElem?_eq_getElem hn]
 exact List.getElem_mem hn
theorem ZaW (l : List Int) (hl : 0 < l.length) : Dr (fun b i h => spec_l1Int.f b i h l) (fun x => x ∈ l) := by
 intro b i h hb h0 h1
 obtain ⟨x, i1, e1, f1, p1, a1, b1⟩ := Zv (l.length : Int) b i h hb h0 h1
 have f1' : spec_l1Below.f b i h (l.length : Int) = some (x, i1, e1) := f1
 have hx := p1.2 (by omega)
 show ∃ x i' h', spec_l1Int.f b i h l = some (x, i', h') ∧ _
 unfold spec_l1Int.f
 rw [f1']
 simp only [Option.bind_some, if_pos p1.1, if_pos hx]
 refine ⟨_, _, _, rfl, ?_, a1, b1⟩
 have hn : x.toNat < l.length := by omega
 rw [rd, List.getD_eq_getElem?_getD, List.getElem?_eq_getElem hn]
 exact List.getElem_mem hn
def HdP (l : List S113) : Prop := l.length ≤ 20 ∧ ∀ x ∈ l, x.f0.size ≤ 100 ∧ x.f1.size ≤ 100
theorem ZbN {l : List S113} {x : S113} {n : Nat} (h : HdP l) (hn : l.length ≤ n) (hn9 : n < 20) (h0 : x.f0.size ≤ 100) (h1 : x.f1.size ≤ 100) : HdP (l ++ [x]) ∧ (l ++ [x]).length ≤ n + 1 := by
 refine ⟨⟨by rw [List.length_append]; simp; omega, fun y hy => ?_⟩, by rw [List.length_append]; simp; omega⟩
 rcases List.mem_append.1 hy with hy | hy
 ·exact h.2 y hy
 ·simp only [List.mem_cons, List.not_mem_nil, or_false] at hy
  subst hy; exact ⟨h0, h1⟩
theorem ZaN : ∀ (n : Nat) (x : List S113) (b : List Int) (i h : Int), n ≤ 5 → HdP x → x.length ≤ 9 - n → b.length ≤ 1048576 → 0 ≤ i → i ≤ b.length → ∃ l i' h', Ev (fun k => spec_l3DrawHeads.l0 k x (n : Int) b i h) (l, i', h') ∧ HdP l ∧ l.length ≤ 9 ∧ 0 ≤ i' ∧ i' ≤ b.length
 | 0, x, b, i, h, hn, hx, hl, hb, h0, h1 => by
  refine ⟨x, i, h, ?_, hx, by omega, h0, h1⟩
  apply ev_succ
  simp only [spec_l3DrawHeads.l0, if_neg (show ¬ ((0 : Nat) : Int) > 0 by omega)]
  exact Ev.now _
 | n + 1, x, b, i, h, hn, hx, hl, hb, h0, h1 => by
  obtain ⟨y, i1, e1, f1, p1, a1, b1⟩ := Zr [(⟨#[105, 102]⟩ : BA), (⟨#[100, 101, 112, 116, 104]⟩ : BA), (⟨#[120, 45, 97]⟩ : BA), (⟨#[104, 111, 115, 116]⟩ : BA), (⟨#[105, 102, 45, 109, 97, 116, 99, 104]⟩ : BA)] (by decide) b i h hb h0 h1
  have f1' : spec_l1Str.f b i h _ = some (y, i1, e1) := f1
  have hy : y.size ≤ 9 := (by decide : ∀ x ∈ _, x.size ≤ 9) y p1
  obtain ⟨z, i2, e2, f2, p2, a2, b2⟩ := Zr [(⟨#[]⟩ : BA), (⟨#[48]⟩ : BA), (⟨#[105, 110, 102, 105, 110, 105, 116, 121]⟩ : BA), (⟨#[97, 32, 98]⟩ : BA), (⟨#[34, 118, 49, 34]⟩ : BA), (⟨#[40, 60, 49, 62, 41]⟩ : BA)] (by decide) b i1 e1 hb a1 b1
  have f2' : spec_l1Str.f b i1 e1 _ = some (z, i2, e2) := f2
  have hz : z.size ≤ 9 := (by decide : ∀ x ∈ _, x.size ≤ 9) z p2
  obtain ⟨hx2, hl2⟩ := ZbN (x := ⟨y, z⟩) hx hl (by omega) (by show y.size ≤ 100; omega) (by show z.size ≤ 100; omega)
  obtain ⟨l, i3, e3, f3, p3, q3, a3, b3⟩ := ZaN n (x ++ [⟨y, z⟩]) b i2 e2 (by omega) hx2 (by omega) hb a2 b2
  refine ⟨l, i3, e3, ?_, p3, q3, a3, b3⟩
  apply ev_succ
  have hw : wrap64 (((n + 1 : Nat) : Int) - 1) = (n : Int) := by rw [wrap_id (by omega) (by omega)]; omega
  simp only [spec_l3DrawHeads.l0, if_pos (show ((n + 1 : Nat) : Int) > 0 by omega), f1', f2', Option.bind_some, if_pos (show x.length < 4398046511104 by omega), hw]
  exact f3
theorem Zcm (b : List Int) (i h : Int) (hb : b.length ≤ 1048576) (h0 : 0 ≤ i) (h1 : i ≤ b.length) : ∃ l i' h', Ev (fun k => spec_l3DrawHeads.f k b i h) (l, i', h') ∧ HdP l ∧ l.length ≤ 9 ∧ 0 ≤ i' ∧ i' ≤ b.length := by
 obtain ⟨x, i1, e1, f1, p1, a1, b1⟩ := Zv 3 b i h hb h0 h1
 have f1' : spec_l1Below.f b i h 3 = some (x, i1, e1) := f1
 have hx := p1.2 (by omega)
 have hx0 := p1.1
 obtain ⟨n, rfl⟩ : ∃ n : Nat, x = (n : Int) := ⟨x.toNat, by omega⟩
 obtain ⟨l, i2, e2, f2, p2⟩ := ZaN n [] b i1 e1 (by omega) ⟨by simp, by simp⟩ (by simp) hb a1 b1
 refine ⟨l, i2, e2, ?_, p2⟩
 unfold spec_l3DrawHeads.f
 simp only [f1', Option.bind_some]
 exact f2
def RqP (m p : BA) (l : List S113) (b : BA) : Prop := m.size ≤ 100 ∧ p.size ≤ 100 ∧ HdP l ∧ b.size ≤ 1000
theorem Zef (b : List Int) (i h : Int) (hb : b.length ≤ 1048576) (h0 : 0 ≤ i) (h1 : i ≤ b.length) : ∃ m p l y i' h', Ev (fun k => spec_l3Draw.f k b i h) (m, p, l, y, i', h') ∧ RqP m p l y ∧ l.length ≤ 9 ∧ 0 ≤ i' ∧ i' ≤ b.length := by
 obtain ⟨m, i1, e1, f1, p1, a1, b1⟩ := Zr [(⟨#[71, 69, 84]⟩ : BA), (⟨#[80, 85, 84]⟩ : BA), (⟨#[77, 75, 67, 79, 76]⟩ : BA), (⟨#[68, 69, 76, 69, 84, 69]⟩ : BA), (⟨#[67, 79, 80, 89]⟩ : BA)] (by decide) b i h hb h0 h1
 have f1' : spec_l1Str.f b i h _ = some (m, i1, e1) := f1
 have hm : m.size ≤ 9 := (by decide : ∀ x ∈ _, x.size ≤ 9) m p1
 obtain ⟨p, i2, e2, f2, p2, a2, b2⟩ := Zr [(⟨#[47]⟩ : BA), (⟨#[47, 97]⟩ : BA), (⟨#[47, 97, 47, 98]⟩ : BA), (⟨#[47, 97, 37, 50, 48, 98]⟩ : BA), (⟨#[120]⟩ : BA)] (by decide) b i1 e1 hb a1 b1
 have f2' : spec_l1Str.f b i1 e1 _ = some (p, i2, e2) := f2
 have hp : p.size ≤ 9 := (by decide : ∀ x ∈ _, x.size ≤ 9) p p2
 obtain ⟨l, i3, e3, f3, p3, q3, a3, b3⟩ := Zcm b i2 e2 hb a2 b2
 obtain ⟨y, i4, e4, f4, p4, a4, b4⟩ := Zr [(⟨#[]⟩ : BA), (⟨#[]⟩ : BA), (⟨#[97]⟩ : BA), (⟨#[104, 101, 108, 108, 111]⟩ : BA), (⟨#[60, 97, 47, 62]⟩ : BA), (⟨#[13, 10, 13, 10]⟩ : BA), (⟨#[120, 0, 255]⟩ : BA)] (by decide) b i3 e3 hb a3 b3
 have f4' : spec_l1Str.f b i3 e3 _ = some (y, i4, e4) := f4
 have hy : y.size ≤ 9 := (by decide : ∀ x ∈ _, x.size ≤ 9) y p4
 have f4b : spec_l3Body.f b i3 e3 = some (y, i4, e4) := by unfold spec_l3Body.f; rw [f4']; rfl
 refine ⟨m, p, l, y, i4, e4, ?_, ⟨by omega, by omega, p3, by omega⟩, q3, a4, b4⟩
 unfold spec_l3Draw.f
 simp only [f1', f2', Option.bind_some]
 refine Ev.bind f3 ?_
 simp only [f4b, Option.bind_some]
 exact Ev.now _
def BtP (n : Nat) (l : List Int) : Prop := l.length ≤ n ∧ ∀ x ∈ l, 0 ≤ x ∧ x < 256
theorem Zbl (b : List Int) (h : ∀ x ∈ b, 0 ≤ x ∧ x < 256) : ∀ x ∈ Zo b, 0 ≤ x ∧ x < 256 := by
 intro x hx
 unfold Zo at hx
 split at hx
 ·exact absurd hx (by simp)
 ·simp only [List.mem_append] at hx
  rcases hx with ((hx | hx) | hx) | hx
  ·exact ZaU _ x hx
  ·simp at hx; omega
  ·exact h x hx
  ·simp at hx; omega
theorem Zaz : ∀ (s b : List Int), b.length ≤ 1048576 → (∀ x ∈ b, 0 ≤ x ∧ x < 256) → (Zc b s).length ≤ b.length + 20 * s.length + 25 ∧ ∀ x ∈ Zc b s, 0 ≤ x ∧ x < 256
 | [], b, hb, hr => by
  have := Zar b hb
  rw [Zc]
  refine ⟨by simp only [List.length_append, List.length_cons, List.length_nil]; omega, fun x hx => ?_⟩
  rcases List.mem_append.1 hx with h | h
  ·exact Zbl b hr x h
  ·simp at h; omega
 | n :: r, b, hb, hr => by
  rw [Zc]
  split
  ·have := Zaz r b hb hr
   exact ⟨by rw [List.length_cons]; omega, this.2⟩
  ·have hd : (b.take n.toNat).length + (b.drop n.toNat).length = b.length := by rw [← List.length_append, List.take_append_drop]
   have h1 := Zaz r (b.drop n.toNat) (by omega) (fun x hx => hr x (List.mem_of_mem_drop hx))
   have h2 := Zar (b.take n.toNat) (by omega)
   refine ⟨by rw [List.length_append, List.length_cons]; omega, fun x hx => ?_⟩
   rcases List.mem_append.1 hx with h | h
   ·exact Zbl _ (fun y hy => hr y (List.mem_of_mem_take hy)) x h
   ·exact h1.2 x h
theorem ZeT (m p : BA) (l : List S113) (b more : BA) (body : List Int) (n : Nat) (h : BtP n body) : BtP (400 + n) (putV m p l b more body) := by
 refine ⟨by have := Zeu m p l b more body; have := h.1; omega, ?_⟩
 unfold putV
 split
 ·split
  ·simp
  ·intro x hx
   rcases List.mem_append.1 hx with hx | hx
   ·exact bytesOf_range _ x hx
   ·exact h.2 x hx
 ·simp
theorem Zeg (s : BA) (n : Nat) (h : s.size ≤ n) : BtP n (bytesOf s) := ⟨by rw [bytesOf_length]; exact h, bytesOf_range s⟩
theorem Ze0 {m p : BA} {l : List S113} {b : BA} (h : RqP m p l b) : m.size ≤ 1048576 ∧ p.size ≤ 1048576 ∧ l.length ≤ 1048576 ∧ (∀ x ∈ l, x.f0.size ≤ 1048576 ∧ x.f1.size ≤ 1048576) ∧ b.size ≤ 1048576 :=
 ⟨by have := h.1; omega, by have := h.2.1; omega, by have := h.2.2.1.1; omega, fun x hx => by have := h.2.2.1.2 x hx; omega, by have := h.2.2.2; omega⟩
theorem Zdk : ∀ (n : Nat) (m p : BA) (l : List S113) (y : BA) (b : List Int) (i h : Int), 9 - l.length = n → l.length ≤ 9 → RqP m p l y → b.length ≤ 1048576 → 0 ≤ i → i ≤ b.length → ∃ l' i' h', Ev (fun k => spec_l3Any.l0 k b i h m p l y) (m, p, l', y, i', h') ∧ RqP m p l' y ∧ 0 ≤ i' ∧ i' ≤ b.length
 | n, m, p, l, y, b, i, h, hn, hl, hP, hb, h0, h1 => by
  obtain ⟨v, i1, e1, f1, p1, a1, b1⟩ := Zv 2 b i h hb h0 h1
  have f1' : spec_l1Below.f b i h 2 = some (v, i1, e1) := f1
  have hv := p1.2 (by omega)
  have hv0 := p1.1
  have hw : wrap64 (8 + v) = 8 + v := wrap_id (by omega) (by omega)
  by_cases q : (l.length : Int) < 8 + v
  ·obtain ⟨t, i2, e2, f2, p2, a2, b2⟩ := ZaW [0, 9, 60] (by decide) b i1 e1 hb a1 b1
   have f2' : spec_l1Int.f b i1 e1 _ = some (t, i2, e2) := f2
   have ht : 0 ≤ t ∧ t ≤ 60 := by simp only [List.mem_cons, List.not_mem_nil, or_false] at p2; omega
   match n, hn with
   | 0, hn => omega
   | n + 1, hn =>
   obtain ⟨hP2, hl2⟩ := ZbN (x := ⟨(⟨#[120]⟩ : BA), (⟨#[115, 105, 120, 116, 121, 45, 98, 121, 116, 101, 115, 45, 111, 102, 45, 97, 45, 118, 97, 108, 117, 101, 45, 116, 104, 97, 116, 45, 105, 115, 45, 97, 115, 45, 108, 111, 110, 103, 45, 97, 115, 45, 97, 45, 118, 97, 108, 117, 101, 45, 109, 97, 121, 45, 98, 101, 45, 110, 111, 119]⟩ : BA).extract 0 (t : Int).toNat⟩) hP.2.2.1 (Nat.le_refl l.length) (by omega) (by show (⟨#[120]⟩ : BA).size ≤ 100; decide) (by
    show ((⟨#[115, 105, 120, 116, 121, 45, 98, 121, 116, 101, 115, 45, 111, 102, 45, 97, 45, 118, 97, 108, 117, 101, 45, 116, 104, 97, 116, 45, 105, 115, 45, 97, 115, 45, 108, 111, 110, 103, 45, 97, 115, 45, 97, 45, 118, 97, 108, 117, 101, 45, 109, 97, 121, 45, 98, 101, 45, 110, 111, 119]⟩ : BA).extract 0 t.toNat).size ≤ 100
    rw [ByteArray.size_extract]; omega)
   obtain ⟨l', i3, e3, f3, p3⟩ := Zdk n m p _ y b i2 e2 (by rw [List.length_append]; simp; omega) (by omega) ⟨hP.1, hP.2.1, hP2, hP.2.2.2⟩ hb a2 b2
   refine ⟨l', i3, e3, ?_, p3⟩
   apply ev_succ
   simp only [spec_l3Any.l0, f1', Option.bind_some, hw, if_pos q, f2', if_pos ht.1, if_pos ht.2, if_pos (show l.length < 4398046511104 by omega)]
   exact f3
  ·refine ⟨l, i1, e1, ?_, hP, a1, b1⟩
   apply ev_succ
   simp only [spec_l3Any.l0, f1', Option.bind_some, hw, if_neg q]
   exact Ev.now _
theorem Zey (b : List Int) (i h : Int) (hb : b.length ≤ 1048576) (h0 : 0 ≤ i) (h1 : i ≤ b.length) : ∃ m p l y i' h', Ev (fun k => spec_l3Any.f k b i h) (m, p, l, y, i', h') ∧ RqP m p l y ∧ 0 ≤ i' ∧ i' ≤ b.length := by
 obtain ⟨m, p, l, y, i1, e1, f1, p1, q1, a1, b1⟩ := Zef b i h hb h0 h1
 obtain ⟨v, i2, e2, f2, p2, a2, b2⟩ := Zv 12 b i1 e1 hb a1 b1
 have f2' : spec_l1Below.f b i1 e1 12 = some (v, i2, e2) := f2
 obtain ⟨pm, pp, pl, py⟩ := p1
 unfold spec_l3Any.f
 by_cases c0 : v = 0
 ·obtain ⟨z, i3, e3, f3, p3, a3, b3⟩ := Zr [(⟨#[]⟩ : BA), (⟨#[103, 101, 116]⟩ : BA), (⟨#[84, 69, 78, 76, 69, 84, 84, 69, 82, 83]⟩ : BA), (⟨#[65, 32, 66]⟩ : BA)] (by decide) b i2 e2 hb a2 b2
  have f3' : spec_l1Str.f b i2 e2 _ = some (z, i3, e3) := f3
  have hz : z.size ≤ 19 := (by decide : ∀ x ∈ _, x.size ≤ 19) z p3
  refine ⟨z, p, l, y, i3, e3, Ev.bind f1 ?_, ⟨by omega, pp, pl, py⟩, a3, b3⟩
  simp only [f2', Option.bind_some, if_pos c0, f3']; exact Ev.now _
 by_cases c1 : v = 1
 ·obtain ⟨z, i3, e3, f3, p3, a3, b3⟩ := Zr [(⟨#[]⟩ : BA), (⟨#[97, 32, 98]⟩ : BA), (⟨#[127]⟩ : BA)] (by decide) b i2 e2 hb a2 b2
  have f3' : spec_l1Str.f b i2 e2 _ = some (z, i3, e3) := f3
  have hz : z.size ≤ 19 := (by decide : ∀ x ∈ _, x.size ≤ 19) z p3
  refine ⟨m, z, l, y, i3, e3, Ev.bind f1 ?_, ⟨pm, by omega, pl, py⟩, a3, b3⟩
  simp only [f2', Option.bind_some, if_neg c0, if_pos c1, f3']; exact Ev.now _
 by_cases c2 : v = 2
 ·obtain ⟨z, i3, e3, f3, p3, a3, b3⟩ := Zr [(⟨#[99, 111, 110, 116, 101, 110, 116, 45, 108, 101, 110, 103, 116, 104]⟩ : BA), (⟨#[88]⟩ : BA), (⟨#[]⟩ : BA), (⟨#[97]⟩ : BA)] (by decide) b i2 e2 hb a2 b2
  have f3' : spec_l1Str.f b i2 e2 _ = some (z, i3, e3) := f3
  have hz : z.size ≤ 19 := (by decide : ∀ x ∈ _, x.size ≤ 19) z p3
  obtain ⟨u, i4, e4, f4, p4, a4, b4⟩ := Zr [(⟨#[32, 97]⟩ : BA), (⟨#[97]⟩ : BA), (⟨#[13, 10]⟩ : BA)] (by decide) b i3 e3 hb a3 b3
  have f4' : spec_l1Str.f b i3 e3 _ = some (u, i4, e4) := f4
  have hu : u.size ≤ 19 := (by decide : ∀ x ∈ _, x.size ≤ 19) u p4
  obtain ⟨hP2, _⟩ := ZbN (x := ⟨z, u⟩) pl q1 (by omega) (by show z.size ≤ 100; omega) (by show u.size ≤ 100; omega)
  refine ⟨m, p, l ++ [⟨z, u⟩], y, i4, e4, Ev.bind f1 ?_, ⟨pm, pp, hP2, py⟩, a4, b4⟩
  simp only [f2', Option.bind_some, if_neg c0, if_neg c1, if_pos c2, f3', f4', if_pos (show l.length < 4398046511104 by omega)]; exact Ev.now _
 by_cases c3 : v = 3
 ·obtain ⟨z, i3, e3, f3, p3, a3, b3⟩ := Zv 2 b i2 e2 hb a2 b2
  have f3' : spec_l1Below.f b i2 e2 2 = some (z, i3, e3) := f3
  have hz := p3.2 (by omega)
  have hz0 := p3.1
  have hw : wrap64 (200 + z) = 200 + z := wrap_id (by omega) (by omega)
  refine ⟨m, p, l, strOfNums (List.replicate (200 + z : Int).toNat 0), i3, e3, Ev.bind f1 ?_, ⟨pm, pp, pl, ?_⟩, a3, b3⟩
  ·simp only [f2', Option.bind_some, if_neg c0, if_neg c1, if_neg c2, if_pos c3, f3', hw, if_pos (show (0 : Int) ≤ 200 + z by omega), if_pos (show (200 + z : Int).toNat ≤ 281474976710656 by omega)]; exact Ev.now _
  ·rw [size_len, bytesOf_strOfNums _ (fun x hx => by rw [List.eq_of_mem_replicate hx]; omega), List.length_replicate]; omega
 by_cases c4 : v = 4
 ·obtain ⟨l', i3, e3, f3, p3, a3, b3⟩ := Zdk (9 - l.length) m p l y b i2 e2 rfl q1 ⟨pm, pp, pl, py⟩ hb a2 b2
  refine ⟨m, p, l', y, i3, e3, Ev.bind f1 ?_, p3, a3, b3⟩
  simp only [f2', Option.bind_some, if_neg c0, if_neg c1, if_neg c2, if_neg c3, if_pos c4]; exact f3
 ·refine ⟨m, p, l, y, i2, e2, Ev.bind f1 ?_, ⟨pm, pp, pl, py⟩, a2, b2⟩
  simp only [f2', Option.bind_some, if_neg c0, if_neg c1, if_neg c2, if_neg c3, if_neg c4]; exact Ev.now _
theorem Zcg : ∀ (n : Nat) (x : List Int) (b : List Int) (i h : Int), n ≤ 5 → x.length ≤ 9 - n → b.length ≤ 1048576 → 0 ≤ i → i ≤ b.length → ∃ l i' h', Ev (fun k => spec_l4Sizes.l0 k x (n : Int) b i h) (l, i', h') ∧ l.length ≤ 9 ∧ 0 ≤ i' ∧ i' ≤ b.length
 | 0, x, b, i, h, hn, hl, hb, h0, h1 => by
  refine ⟨x, i, h, ?_, by omega, h0, h1⟩
  apply ev_succ
  simp only [spec_l4Sizes.l0, if_neg (show ¬ ((0 : Nat) : Int) > 0 by omega)]
  exact Ev.now _
 | n + 1, x, b, i, h, hn, hl, hb, h0, h1 => by
  obtain ⟨y, i1, e1, f1, p1, a1, b1⟩ := ZaW [0, 1, 2, 3, 16, 100, -1] (by decide) b i h hb h0 h1
  have f1' : spec_l1Int.f b i h _ = some (y, i1, e1) := f1
  obtain ⟨l, i3, e3, f3, p3, a3, b3⟩ := Zcg n (x ++ [y]) b i1 e1 (by omega) (by rw [List.length_append, List.length_cons, List.length_nil]; omega) hb a1 b1
  refine ⟨l, i3, e3, ?_, p3, a3, b3⟩
  apply ev_succ
  have hw : wrap64 (((n + 1 : Nat) : Int) - 1) = (n : Int) := by rw [wrap_id (by omega) (by omega)]; omega
  simp only [spec_l4Sizes.l0, if_pos (show ((n + 1 : Nat) : Int) > 0 by omega), f1', Option.bind_some, if_pos (show x.length < 17592186044416 by omega), hw]
  exact f3
theorem ZaX (b : List Int) (i h : Int) (hb : b.length ≤ 1048576) (h0 : 0 ≤ i) (h1 : i ≤ b.length) : ∃ l i' h', Ev (fun k => spec_l4Sizes.f k b i h) (l, i', h') ∧ l.length ≤ 9 ∧ 0 ≤ i' ∧ i' ≤ b.length := by
 obtain ⟨x, i1, e1, f1, p1, a1, b1⟩ := Zv 4 b i h hb h0 h1
 have f1' : spec_l1Below.f b i h 4 = some (x, i1, e1) := f1
 have hx := p1.2 (by omega)
 have hx0 := p1.1
 obtain ⟨n, rfl⟩ : ∃ n : Nat, x = (n : Int) := ⟨x.toNat, by omega⟩
 obtain ⟨l, i2, e2, f2, p2⟩ := Zcg n [] b i1 e1 (by omega) (by simp) hb a1 b1
 refine ⟨l, i2, e2, ?_, p2⟩
 unfold spec_l4Sizes.f
 simp only [f1', Option.bind_some]
 exact f2
theorem Ze1 (l : List Int) (hl : l.length ≤ 1048576) (hr : ∀ x ∈ l, 0 ≤ x ∧ x < 256) (a : Int) (h0 : 0 ≤ a) (h9 : a ≤ 9) : ∃ v, laws_at.f l a = some v ∧ 0 ≤ v ∧ v ≤ 255 := by
 unfold laws_at.f
 by_cases q : a < (l.length : Int)
 ·rw [if_pos q, if_pos h0]
  have hn : a.toNat < l.length := by omega
  have he : rd l a = l[a.toNat] := by rw [rd, List.getD_eq_getElem?_getD, List.getElem?_eq_getElem hn, Option.getD_some]
  have := hr _ (List.getElem_mem hn)
  refine ⟨_, rfl, ?_⟩
  rw [he, wrap_id (by omega) (by omega)]; omega
 ·rw [if_neg q]
  refine ⟨_, rfl, ?_⟩
  rw [wrap_id (x := a * 31) (by omega) (by omega), wrap_id (x := (l.length : Int) * 7) (by omega) (by omega), wrap_id (by omega) (by omega)]
  have := ZaV (a * 31 + (l.length : Int) * 7) 256 (by omega) (by omega)
  omega
theorem Zbs (a b : List S113) (ha : a.length ≤ 9223372036854775806) : Ev (fun k => impl_sameHeads.f k a b) (eqb a b) := by
 unfold impl_sameHeads.f
 refine ev_ite (fun q => ?_) (fun q => ?_)
 ·have q' : a.length = b.length := by omega
  refine eq_loop a b (· = ·) q' ha (fun i k => impl_sameHeads.l0 k a b (a.length : Int) (i : Int)) _ ((eqb_iff a b).trans (list_eq_iff a b q')) ?_ ?_
  ·intro i hi
   apply ev_succ; simp only [impl_sameHeads.l0, if_neg (show ¬ (i : Int) < a.length by omega)]; exact Ev.now _
  ·intro i x y v hi hx hy hw1 ih
   have hxx : rd_T113 a (i : Int) = x := hx _
   have hyy : rd_T113 b (i : Int) = y := hy _
   refine ⟨fun hR => ?_, fun hR => ?_⟩
   ·apply ev_succ
    subst hR
    simp only [impl_sameHeads.l0, if_pos (show (i : Int) < a.length by omega), if_pos (show (0 : Int) ≤ i by omega), if_pos (show (i : Int) < b.length by omega), hxx, hyy, hw1, beq_self_eq_true, Bool.not_true, Bool.or_self, Bool.false_eq_true, if_false]; exact ih
   ·apply ev_succ
    simp only [impl_sameHeads.l0, if_pos (show (i : Int) < a.length by omega), if_pos (show (0 : Int) ≤ i by omega), if_pos (show (i : Int) < b.length by omega), hxx, hyy, hw1]
    refine ev_ite (fun _ => Ev.now _) (fun hn => absurd ?_ hn)
    rw [ZeD] at hR
    simp only [Bool.or_eq_true, Bool.not_eq_true', beq_eq_false_iff_ne, ne_eq, toList_iff]
    by_cases e0 : x.f0 = y.f0
    ·exact .inr (fun e1 => hR ⟨e0, e1⟩)
    ·exact .inl e0
 ·rw [eqb_ne (fun h => q (by rw [h]))]; exact Ev.now _
theorem ZdX (a b : BA) : (a.toList == b.toList) = eqb a b := by
 rw [Bool.eq_iff_iff, beq_iff_eq, toList_iff, eqb_iff]
theorem Zch (m p : BA) (l : List S113) (b : BA) (m' p' : BA) (l' : List S113) (b' : BA) (hl : l.length ≤ 9223372036854775806) : Ev (fun k => impl_SameReq.f k m p l b m' p' l' b') (decb (Zda m p l b m' p' l' b')) := by
 unfold impl_SameReq.f
 refine ev_ite (fun q => ?_) (fun q => ?_)
 ·rw [toList_iff] at q
  refine ev_ite (fun q0 => ?_) (fun q0 => ?_)
  ·rw [toList_iff] at q0
   refine Ev.bind (Zbs l l' hl) (ev_iteB (fun q1 => ?_) (fun q1 => ?_))
   ·rw [eqb_iff] at q1
    rw [ZdX, show eqb b b' = decb (Zda m p l b m' p' l' b') from eqb_congr2 ⟨fun h => ⟨q, q0, q1, h⟩, fun h => h.2.2.2⟩]; exact Ev.now _
   ·have : ¬ l = l' := fun h => by rw [(eqb_iff l l').mpr h] at q1; cases q1
    rw [decb_false (fun h => this h.2.2.1)]; exact Ev.now _
  ·rw [toList_iff] at q0; rw [decb_false (fun h => q0 h.2.1)]; exact Ev.now _
 ·rw [toList_iff] at q; rw [decb_false (fun h => q h.1)]; exact Ev.now _
theorem Zbt (b : BA) (l : List Int) (hb : b.size ≤ 1048576) (hl : l.length ≤ 1048576) : Ev (fun k => spec_PutChunks.f k b l) (Zc (bytesOf b) l) ∧ (Zc (bytesOf b) l).length ≤ 100000000 := by
 obtain ⟨t, h2, h3, h4⟩ := Zai b l hb hl
 refine ⟨?_, by rw [← h3, bytesOf_length]; exact h4⟩
 unfold spec_PutChunks.f
 refine Ev.bind h2 ?_
 rw [if_pos (by omega), h3]
 exact Ev.now _
theorem ZcB (b : List Int) (i h : Int) (hb : b.length ≤ 1048576) (h0 : 0 ≤ i) (h1 : i ≤ b.length) : ∃ y i' h', spec_l3Body.f b i h = some (y, i', h') ∧ y.size ≤ 9 ∧ 0 ≤ i' ∧ i' ≤ b.length := by
 obtain ⟨y, i4, e4, f4, p4, a4, b4⟩ := Zr [(⟨#[]⟩ : BA), (⟨#[]⟩ : BA), (⟨#[97]⟩ : BA), (⟨#[104, 101, 108, 108, 111]⟩ : BA), (⟨#[60, 97, 47, 62]⟩ : BA), (⟨#[13, 10, 13, 10]⟩ : BA), (⟨#[120, 0, 255]⟩ : BA)] (by decide) b i h hb h0 h1
 have f4' : spec_l1Str.f b i h _ = some (y, i4, e4) := f4
 have hy : y.size ≤ 9 := (by decide : ∀ x ∈ _, x.size ≤ 9) y p4
 exact ⟨y, i4, e4, by unfold spec_l3Body.f; rw [f4']; rfl, hy, a4, b4⟩
theorem ZbO (l : List Int) (h : Int) (hl : l.length ≤ 1048576) (hn : Ev (fun k => spec_l1New.f k l) (l, (0 : Int), h)) : ∃ b s, Ev (fun k => spec_DrawPutChunks.f k l) (b, s) ∧ b.size ≤ 60 ∧ s.length ≤ 9 := by
 obtain ⟨y, i1, e1, f1, p1, a1, b1⟩ := ZcB l 0 h hl (by omega) (by omega)
 obtain ⟨z, i2, e2, f2, p2, a2, b2⟩ := Zr [(⟨#[]⟩ : BA), (⟨#[115, 105, 120, 116, 101, 101, 110, 45, 98, 121, 116, 101, 115, 45, 115, 111]⟩ : BA), (⟨#[48]⟩ : BA)] (by decide) l i1 e1 hl a1 b1
 have f2' : spec_l1Str.f l i1 e1 _ = some (z, i2, e2) := f2
 have hz : z.size ≤ 20 := (by decide : ∀ x ∈ _, x.size ≤ 20) z p2
 obtain ⟨s, i3, e3, f3, p3, a3, b3⟩ := ZaX l i2 e2 hl a2 b2
 refine ⟨y ++ z, s, ?_, by rw [ByteArray.size_append]; omega, p3⟩
 unfold spec_DrawPutChunks.f
 refine Ev.bind hn ?_
 simp only [f1, Option.bind_some, f2', if_pos (show y.size + z.size ≤ 9223372036854775807 by omega)]
 exact Ev.bind f3 (Ev.now _)
theorem Zbu (l : List Int) (h : Int) (hl : l.length ≤ 1048576) (hn : Ev (fun k => spec_l1New.f k l) (l, (0 : Int), h)) : ∃ m p d y s, Ev (fun k => spec_DrawPutChunked.f k l) (m, p, d, y, s) ∧ RqP m p d y ∧ s.length ≤ 9 := by
 obtain ⟨m, p, d, y, i1, e1, f1, p1, a1, b1⟩ := Zey l 0 h hl (by omega) (by omega)
 obtain ⟨s, i3, e3, f3, p3, a3, b3⟩ := ZaX l i1 e1 hl a1 b1
 refine ⟨m, p, d, y, s, ?_, p1, p3⟩
 unfold spec_DrawPutChunked.f
 exact Ev.bind hn (Ev.bind f1 (Ev.bind f3 (Ev.now _)))
theorem ZaF (n : Int) (b : List Int) (i h : Int) (hb : b.length ≤ 1048576) (h0 : 0 ≤ i) (h1 : i ≤ b.length) : ∃ y i' h', spec_l1Int.f b i h [0, 0, 0, 0, 1, n, -1, 9999] = some (y, i', h') := by
 obtain ⟨y, i1, e1, f1, p1, a1, b1⟩ := ZaW [0, 0, 0, 0, 1, n, -1, 9999] (by simp) b i h hb h0 h1
 exact ⟨y, i1, e1, f1⟩
theorem ZbP (l : List Int) (h : Int) (hl : l.length ≤ 1048576) (hn : Ev (fun k => spec_l1New.f k l) (l, (0 : Int), h)) : ∃ g p, Ev (fun k => spec_DrawGetChunks.f k l) (g, p) ∧ BtP 3000 g := by
 obtain ⟨y, i1, e1, f1, p1, a1, b1⟩ := ZcB l 0 h hl (by omega) (by omega)
 obtain ⟨z, i2, e2, f2, p2, a2, b2⟩ := Zr [(⟨#[]⟩ : BA), (⟨#[97, 98, 99]⟩ : BA)] (by decide) l i1 e1 hl a1 b1
 have f2' : spec_l1Str.f l i1 e1 _ = some (z, i2, e2) := f2
 have hz : z.size ≤ 20 := (by decide : ∀ x ∈ _, x.size ≤ 20) z p2
 obtain ⟨s, i3, e3, f3, p3, a3, b3⟩ := ZaX l i2 e2 hl a2 b2
 have hyz : (y ++ z).size ≤ 60 := by rw [ByteArray.size_append]; omega
 have ec := (Zbt (y ++ z) s (by omega) (by omega)).1
 have hlb := bytesOf_length (y ++ z)
 have hc := Zaz s (bytesOf (y ++ z)) (by omega) (bytesOf_range _)
 generalize Zc (bytesOf (y ++ z)) s = T at ec hc
 obtain ⟨tl0, tr⟩ := hc
 have tl : T.length ≤ 1000 := by omega
 clear tl0 hlb
 obtain ⟨v, i4, e4, f4, p4, a4, b4⟩ := Zv 5 l i3 e3 hl a3 b3
 have f4' : spec_l1Below.f l i3 e3 5 = some (v, i4, e4) := f4
 have hw : wrap64 ((T.length : Int) + 1) = (T.length : Int) + 1 := wrap_id (by omega) (by omega)
 obtain ⟨w, i5, e5, f5, p5, a5, b5⟩ := Zv ((T.length : Int) + 1) l i4 e4 hl a4 b4
 have f5' : spec_l1Below.f l i4 e4 ((T.length : Int) + 1) = some (w, i5, e5) := f5
 have hw1 : w ≤ (T.length : Int) := Int.lt_add_one_iff.1 (p5.2 (Int.lt_add_one_of_le (Int.natCast_nonneg _)))
 have hw0 := p5.1
 have hsz : y.size + z.size ≤ 9223372036854775807 := by clear a1 a2 a3 a4 a5 b1 b2 b3 b4 b5 p4 p5; omega
 clear a1 a2 a3 b1 b2 b3 p4 p5 hyz p1 hz
 suffices ∃ g p, BtP 3000 g ∧ Ev (fun k => spec_DrawGetChunks.f k l) (g, p) by
  obtain ⟨g, p, q1, q2⟩ := this
  exact ⟨g, p, q2, q1⟩
 by_cases c0 : v = 0
 ·obtain ⟨u, i6, e6, f6, p6, a6, b6⟩ := ZaW [0, 13, 10, 48, 102, 32] (by decide) l i5 e5 hl a5 b5
  have f6' : spec_l1Int.f l i5 e5 _ = some (u, i6, e6) := f6
  obtain ⟨x, i7, e7, f7⟩ := ZaF (((([] ++ T.take w.toNat) ++ [u % 256]) ++ T.drop w.toNat).length : Int) l i6 e6 hl a6 b6
  refine ⟨(([] ++ T.take w.toNat) ++ [u % 256]) ++ T.drop w.toNat, x, ⟨?_, ?_⟩, ?_⟩
  ·simp only [List.length_nil, List.length_append, List.length_take, List.length_drop, List.length_cons]; omega
  ·intro x hx
   simp only [List.nil_append, List.mem_append, List.mem_cons, List.not_mem_nil, or_false] at hx
   rcases hx with (hx | hx) | hx
   ·exact tr x (List.mem_of_mem_take hx)
   ·subst hx; omega
   ·exact tr x (List.mem_of_mem_drop hx)
  ·unfold spec_DrawGetChunks.f
   refine Ev.bind hn ?_
   simp only [f1, Option.bind_some, f2', if_pos hsz]
   refine Ev.bind f3 (Ev.bind ec ?_)
   simp only [f4', Option.bind_some, if_pos c0, hw, f5', if_pos hw0, if_pos hw1, f6']
   rw [if_pos (by simp only [List.length_nil, List.length_take]; omega)]
   rw [if_pos (by simp only [List.length_nil, List.length_append, List.length_take]; omega)]
   rw [if_pos (by simp only [List.length_nil, List.length_append, List.length_take, List.length_drop, List.length_cons]; omega)]
   rw [f7]
   exact Ev.now _
 by_cases c1 : v = 1
 ·obtain ⟨x, i7, e7, f7⟩ := ZaF ((T.take w.toNat).length : Int) l i5 e5 hl a5 b5
  refine ⟨T.take w.toNat, x, ⟨by rw [List.length_take]; omega, fun x hx => tr x (List.mem_of_mem_take hx)⟩, ?_⟩
  unfold spec_DrawGetChunks.f
  refine Ev.bind hn ?_
  simp only [f1, Option.bind_some, f2', if_pos hsz]
  refine Ev.bind f3 (Ev.bind ec ?_)
  simp only [f4', Option.bind_some, if_neg c0, if_pos c1, hw, f5', if_pos hw0, if_pos hw1, f7]
  exact Ev.now _
 by_cases c2 : v = 2
 ·obtain ⟨u, i6, e6, f6, p6, a6, b6⟩ := Zr [(⟨#[99, 56, 13, 10]⟩ : BA), (⟨#[99, 57, 13, 10]⟩ : BA), (⟨#[48, 48, 48, 48, 49, 13, 10, 97]⟩ : BA), (⟨#[48, 48, 48, 49, 13, 10, 97, 13, 10, 48, 13, 10, 13, 10]⟩ : BA), (⟨#[49, 13, 97]⟩ : BA), (⟨#[120]⟩ : BA), (⟨#[49, 13, 10, 97, 98, 13, 10]⟩ : BA), (⟨#[]⟩ : BA), (⟨#[13, 10]⟩ : BA), (⟨#[48, 13, 10, 13]⟩ : BA)] (by decide) l i4 e4 hl a4 b4
  have f6' : spec_l1Str.f l i4 e4 _ = some (u, i6, e6) := f6
  have hs : u.size ≤ 99 := (by decide : ∀ x ∈ _, x.size ≤ 99) u p6
  obtain ⟨x, i7, e7, f7⟩ := ZaF ((bytesOf u).length : Int) l i6 e6 hl a6 b6
  refine ⟨bytesOf u, x, Zeg u 3000 (by omega), ?_⟩
  unfold spec_DrawGetChunks.f
  refine Ev.bind hn ?_
  simp only [f1, Option.bind_some, f2', if_pos hsz]
  refine Ev.bind f3 (Ev.bind ec ?_)
  simp only [f4', Option.bind_some, if_neg c0, if_neg c1, if_pos c2, f6', if_pos (show u.size < 140737488355328 by omega), f7]
  exact Ev.now _
 ·obtain ⟨x, i7, e7, f7⟩ := ZaF (T.length : Int) l i4 e4 hl a4 b4
  refine ⟨T, x, ⟨by omega, tr⟩, ?_⟩
  unfold spec_DrawGetChunks.f
  refine Ev.bind hn ?_
  simp only [f1, Option.bind_some, f2', if_pos hsz]
  refine Ev.bind f3 (Ev.bind ec ?_)
  simp only [f4', Option.bind_some, if_neg c0, if_neg c1, if_neg c2, f7]
  exact Ev.now _
theorem ZeL (s : List Int) (b : List Int) (hb : b.length ≤ 200) : chR ((Zc b s).length + 1) (Zc b s) [] = (b, [], 0) := by
 have := ZU s b [] [] ((Zc b s).length + 1) (by omega) (by simpa using hb)
 rwa [List.append_nil, List.nil_append] at this
theorem ZdY (b : BA) (s : List Int) (hb : b.size ≤ 60) (hs : s.length ≤ 9) : ∃ T : List Int, Ev (fun k => impl_PutChunks.f k b s) T ∧ T.length ≤ 1000 ∧ Ev (fun k => impl_GetChunks.f k T 0) (b, (T.length : Int), 0) ∧ ∀ n ≤ T.length, ∃ x, Ev (fun k => impl_GetChunks.f k (T.take n) 0) x ∧ (n < T.length → x.2.2 = 1) := by
 have hbl := bytesOf_length b
 have ep := Zao b s (by omega) (by omega)
 have hT := Zaz s (bytesOf b) (by omega) (bytesOf_range b)
 have hcn := ZeL s (bytesOf b) (by omega)
 have hct := fun (i : Nat) (hi : i < (Zc (bytesOf b) s).length) => ZeH s (bytesOf b) ((Zc (bytesOf b) s).length + 1) i hi (by omega) (by omega)
 generalize Zc (bytesOf b) s = T at ep hT hcn hct
 obtain ⟨tl, tr⟩ := hT
 have tl9 : T.length ≤ 1000 := by omega
 clear tl hbl
 have gi := fun (r : List Int) (hr : r.length ≤ T.length) (hx : ∀ x ∈ r, 0 ≤ x ∧ x < 256) => ZaJ r (by omega) hx 0 (by omega) (T.length + 1) (by rw [List.drop_zero]; omega)
 have g0 := gi T (by omega) tr
 rw [List.drop_zero, hcn, ZbD, strOfNums_bytesOf, List.length_nil, Int.natCast_zero, Int.sub_zero] at g0
 refine ⟨T, ep, tl9, g0, fun n hn => ?_⟩
 have gn := gi (T.take n) (by rw [List.length_take]; omega) (fun x hx => tr x (List.mem_of_mem_take hx))
 rw [List.drop_zero] at gn
 refine ⟨_, gn, fun c => ?_⟩
 have h1 := hct n c
 unfold chV
 rw [if_neg (by omega)]
 exact h1
theorem ZdZ (m u : BA) (d : List S113) (y : BA) (z : List Int) (hq : RqP m u d y) (hz : z.length ≤ 9) : ∃ V : List Int, Ev (fun k => impl_PutChunked.f k m u d y z) V ∧ Ev (fun k => spec_PutChunked.f k m u d y z) V ∧ Ev (fun k => impl_GetReq.f k V) (ZbL V) ∧ (V ≠ [] → ZbL V = (m, u, d, y, (V.length : Int), 0)) := by
 obtain ⟨s1, s2, s3, s4, s5⟩ := Ze0 hq
 have pi := Zbj m u d y z s1 s2 s3 s4 s5 (by omega)
 have ps := Zbi m u d y z s1 s2 s3 s4 s5 (by omega)
 have hyl := bytesOf_length y
 have hys := hq.2.2.2
 clear hq s1 s2 s3 s4
 have hZ := Zaz z (bytesOf y) (by omega) (bytesOf_range y)
 have hV := ZeT m u d y TEl (Zc (bytesOf y) z) 2000 ⟨by have := hZ.1; omega, hZ.2⟩
 have rt := fun h => Zee (m := m) (p := u) (hs := d) (b := y) (s := z) h []
 generalize putV m u d y TEl (Zc (bytesOf y) z) = V at pi ps hV rt
 refine ⟨V, pi, ps, Zea V (Nat.le_trans hV.1 (by decide)) hV.2, fun h => ?_⟩
 have := rt h
 rwa [List.append_nil] at this
theorem FnChunks : laws_FnChunks.Pure := by
 intro l hl0 _
 apply Ev.rounds
 unfold laws_FnChunks.f laws_big.f
 simp only [Option.bind_some]
 refine ev_iteB (fun _ => Ev.now _) (fun q => ?_)
 have hl : l.length ≤ 1048576 := by
  have := of_decide_eq_false q
  omega
 have hr := Zeh hl0.2
 obtain ⟨h, hn⟩ := Zex l hl
 obtain ⟨b, s, e1, hb, hs⟩ := ZbO l h hl hn
 obtain ⟨g, p, e2, hg, hgr⟩ := ZbP l h hl hn
 obtain ⟨m, u, d, y, z, e3, hq, hz⟩ := Zbu l h hl hn
 obtain ⟨v, ev, v0, v9⟩ := Ze1 l hl hr 2 (by decide) (by decide)
 obtain ⟨T, ep, tl, g0, gi⟩ := ZdY b s hb hs
 obtain ⟨X, c1, c2⟩ := ZcZ g (Nat.le_trans hg (by decide)) hgr p
 obtain ⟨V, pi, ps, gq, rt⟩ := ZdZ m u d y z hq hz
 have hs9 := Zch m u d y m u d y (by have := hq.2.2.1.1; omega)
 rw [decb_true ⟨rfl, rfl, rfl, rfl⟩] at hs9
 clear hq hz hb hs hg hgr hl0 hn
 have t0 : 0 ≤ Int.tmod v ((T.length : Int) + 1) := Int.tmod_nonneg _ v0
 have t1 : Int.tmod v ((T.length : Int) + 1) < (T.length : Int) + 1 := Int.tmod_lt_of_pos _ (by omega)
 have hl1 : ((T ++ [0] : List Int).length : Int) = (T.length : Int) + 1 := by rw [List.length_append]; rfl
 have hw : wrap64 ((T.length : Int) + 1) = (T.length : Int) + 1 := wrap_id (by omega) (by omega)
 obtain ⟨n, hN⟩ : ∃ n : Nat, Int.tmod v ((T.length : Int) + 1) = (n : Int) := ⟨(Int.tmod v ((T.length : Int) + 1)).toNat, by omega⟩
 rw [hN] at t0 t1
 have hn9 : n ≤ T.length := by omega
 refine Ev.bind e1 (Ev.bind ep (Ev.bind g0 ?_))
 simp only [ev, Option.bind_some, if_pos (show T.length < 140737488355328 by omega), hl1, if_neg (show ¬ (T.length : Int) + 1 = 0 by omega), hN, if_pos t0, if_pos (show (n : Int) ≤ (T.length : Int) by omega), Int.toNat_natCast, hw]
 obtain ⟨x, gn, x1⟩ := gi n hn9
 refine Ev.bind gn (Ev.bind e2 (Ev.bind c1 (Ev.bind c2 (Ev.bind e3 (Ev.bind pi (Ev.bind gq ?_))))))
 have fin : ∀ (f : Nat → Option Bool), (∀ k, f k = (if x.2.2 = 1 then some true else (if (n : Int) = (T.length : Int) then some true else some false))) → Ev f true := by
  intro f hf
  rw [show f = _ from funext hf]
  refine ev_ite (fun _ => Ev.now _) (fun c => ev_ite (fun _ => Ev.now _) (fun c' => absurd (x1 (by omega)) c))
 by_cases hV0 : V = []
 ·simp only [hV0, List.length_nil, if_neg (show ¬ ((0 : Nat) : Int) > 0 by omega)]
  refine Ev.bind (hV0 ▸ ps) ?_
  simp only [if_true, beq_self_eq_true]
  exact fin _ (fun _ => rfl)
 ·have hv1 : 0 < V.length := List.length_pos_iff.2 hV0
  simp only [rt hV0, if_pos (show (V.length : Int) > 0 by omega), if_true]
  refine Ev.bind hs9 ?_
  simp only [if_true]
  refine Ev.bind ps ?_
  simp only [if_true, beq_self_eq_true]
  exact fin _ (fun _ => rfl)
end Go.Proofs.YtaajhdljdmbhhaaGreatDoor.Pure
