/- Two requests' bytes, cut in whatever pieces, feed a wire that tells them and holds nothing behind, for all codes; no condition. -/
import Derived.Test.YtaajhdljdmbhhaaGreatDoorGFnPipesx17
import Derived.Test.YtaajhdljdmbhhaaGreatDoorBase
import Derived.Lib.IndexMore
import Derived.Lib.Index
import Derived.Lib.SplitLaws
import Derived.Lib.IndexBytes
import Derived.Lib.ItoaNum
import Derived.Lib.AtoiTie
import Derived.Lib.Bytealg
import Derived.Lib.SlTrimSet
namespace Go.Proofs.YtaajhdljdmbhhaaGreatDoor.Pure
open Go.RowKit Go.Proofs.YtaajhdljdmbhhaaGreatDoor.GFnPipes Go.Proofs.YtaajhdljdmbhhaaGreatDoor.Base Go.Proofs.YtaajhdljdmbhhaaGreatDoorW.PrintWords Go.Proofs.YtaajhdljdmbhhaaGreatDoorW.PrintLast
set_option linter.unusedVariables false
set_option linter.unusedSimpArgs false


abbrev BA := ByteArray
def ZO (c : Int) : Bool := decide (32 ≤ c) && decide (c ≤ 126)
def Zba (c : Int) : Bool := decide (97 ≤ c) && decide (c ≤ 122)
def Zad (c : Int) : Bool := decide (48 ≤ c) && decide (c ≤ 57)
def ZA (c : Int) : Bool := decide (65 ≤ c) && decide (c ≤ 90)
theorem Zaa (c a b : Int) : spec_l1In.f c a b = some (decide (a ≤ c) && decide (c ≤ b)) := by
 unfold spec_l1In.f; split <;> simp [*] <;> omega
theorem ZdN (c : Int) (h : wrap64 c = c) : spec_l1Digit.f c = some (Zad c) := by
 unfold spec_l1Digit.f; rw [h, Zaa]; rfl
theorem ZbW (c : Int) : impl_isDigit.f c = some (Zad c) := by
 unfold impl_isDigit.f Zad; split <;> simp [*] <;> omega
def ZJ (c : Int) : Int := if Zad c = true then c - 48 else if 97 ≤ c ∧ c ≤ 102 then c - 87 else if 65 ≤ c ∧ c ≤ 70 then c - 55 else -1
theorem ZbX (c : Int) : -1 ≤ ZJ c ∧ ZJ c < 16 := by
 unfold ZJ Zad
 split
 ·rename_i h; simp at h; omega
 ·split
  ·omega
  ·split <;> omega
theorem ZdO (c : Int) (h0 : 0 ≤ c) (h1 : c < 256) : Ev (fun k => impl_digitOf.f k c) (ZJ c) := by
 have H : ∀ k, impl_digitOf.f (k + 1) c = some (ZJ c) := by
  intro k
  simp only [impl_digitOf.f, ZbW, Option.bind_some, impl_digitOf.j0, ZJ]
  by_cases a1 : 48 ≤ c <;> by_cases a2 : c ≤ 57 <;> by_cases a3 : 97 ≤ c <;> by_cases a4 : c ≤ 102 <;> by_cases a5 : 65 ≤ c <;> by_cases a6 : c ≤ 70
  all_goals first | (exfalso; omega) | (simp [Zad, a1, a2, a3, a4, a5, a6, ge_iff_le]; done) | (simp [Zad, a1, a2, a3, a4, a5, a6, ge_iff_le]; omega)
 exact Ev.step H (Ev.now _)
def phL : Nat → Int → List Int → Int × Bool
 | i, n, [] => (n, decide (i ≠ 0))
 | i, n, c :: r => if ZJ c < 0 then (0, false) else if i ≥ 4 then (0, false) else phL (i + 1) (n * 16 + ZJ c) r
def ZcX (s : BA) : Int × Bool := phL 0 0 (bytesOf s)
theorem ZdP {i : Nat} (h : i ≤ 4) : (16 : Int) ^ i ≤ 65536 := by
 rcases i with _ | _ | _ | _ | _ | i
 all_goals first | omega | decide
theorem ZbH (s : BA) (hs : s.size ≤ 140737488351232) : Ev (fun k => impl_ParseHex.f k s) (ZcX s) := by
 refine str_loop_st s (fun i n k => impl_ParseHex.l0 k s n (i : Int)) phL (fun i n r => i ≤ 4 ∧ 0 ≤ n ∧ n < 16 ^ i ∧ i + r.length = s.size) ?_ ?_ hs 0 0 ⟨by omega, by omega, by simp, by simp [bytesOf_length]⟩
 ·intro i n ⟨_, _, _, hl⟩ hi
  apply ev_succ; simp only [impl_ParseHex.l0, if_neg (show ¬ (i : Int) < s.size by omega)]
  have : (s.toList != ([] : List UInt8)) = decide (i ≠ 0) := by
   rw [Lib.toList_data]
   have h2 := data_length s
   simp at hl
   rw [Bool.eq_iff_iff]
   simp only [bne_iff_ne, ne_eq, decide_eq_true_eq]
   rw [← List.length_eq_zero_iff, h2, hl]
  rw [this]; exact Ev.now _
 ·intro i n c r ⟨h4, h0, hn, hl⟩ h hb hi hw hw1 ih
  have hc := bytesOf_range s c (List.mem_of_mem_drop (by rw [h]; simp : c ∈ (bytesOf s).drop i))
  have hd := ZbX c
  have h16 := ZdP h4
  apply ev_succ
  simp only [impl_ParseHex.l0, if_pos (show (i : Int) < s.size by omega), if_pos (show (0 : Int) ≤ i by omega), hb, hw1]
  refine Ev.bind (ZdO c hc.1 hc.2) (ev_ite (fun q => ?_) (fun q => ev_ite (fun q1 => ?_) (fun q1 => ?_)))
  ·simpa [phL, q] using Ev.now (0, false)
  ·have : i ≥ 4 := by omega
   simpa [phL, q, this] using Ev.now (0, false)
  ·have h5 : ¬ i ≥ 4 := by omega
   rw [wrap_id (x := 16 * n) (by omega) (by omega), wrap_id (by omega) (by omega)]
   have := ih (n * 16 + ZJ c) ⟨by omega, by omega, by rw [Int.pow_succ]; omega, by simp at hl ⊢; omega⟩
   simp only [phL, if_neg q, if_neg h5]
   rw [show 16 * n + ZJ c = n * 16 + ZJ c by omega]; exact this
theorem Zet {l : List Int} (h : ∀ x ∈ l, (Lit.int .u8 x).wf = true) : ∀ x ∈ l, 0 ≤ x ∧ x < 256 := by
 intro x hx
 have := h x hx
 simp [Lit.wf, IntKind.min, IntKind.max, IntKind.signed, IntKind.bits] at this
 omega
theorem ZdQ (c a b : Int) : impl_in.f c a b = some (decide (a ≤ c) && decide (c ≤ b)) := by
 unfold impl_in.f; split <;> simp [*] <;> omega
theorem ZaT {a : Int} (h0 : 0 ≤ a) (h1 : a < 256) (n : Nat) (hn : n < 256) : (UInt8.ofNat n == UInt8.ofNat a.toNat) = decide (a = n) := by
 rw [Bool.eq_iff_iff, beq_iff_eq, decide_eq_true_iff]
 constructor
 ·intro h
  have := congrArg UInt8.toNat h
  simp only [UInt8.toNat_ofNat'] at this
  omega
 ·rintro rfl; simp
theorem ZbY (r : List Int) : ((strOfNums r).toList = ([] : List UInt8)) ↔ r = [] := by
 rw [Lib.toList_data, strOfNums_data]; simp
theorem ZaU (r : List Int) (hr : ∀ x ∈ r, 0 ≤ x ∧ x < 256) : bytesOf (strOfNums r) = r := bytesOf_strOfNums r hr
theorem Ze9 {r : List Int} {a : Int} {t : List Int} (hr : ∀ x ∈ r, 0 ≤ x ∧ x < 256) (h : r = a :: t) : bt (strOfNums r) 0 = a :=
 (bt_drop (s := strOfNums r) (i := 0) (c := a) (r := t) (by rw [ZaU r hr, h]; rfl)).1
theorem Zea (r : List Int) (hr : ∀ x ∈ r, 0 ≤ x ∧ x < 256) (i j : Nat) : (strOfNums r).extract i j = strOfNums ((r.take j).drop i) := by
 apply bytesOf_inj
 rw [bytesOf_extract, ZaU r hr, ZaU _ (fun x hx => hr x (List.mem_of_mem_take (List.mem_of_mem_drop hx)))]
theorem Zcm (r : List Int) (hr : ∀ x ∈ r, 0 ≤ x ∧ x < 256) (i : Nat) : (strOfNums r).extract i (strOfNums r).size = strOfNums (r.drop i) := by
 rw [Zea r hr, strOfNums_size, List.take_length]
def Zb : List Int → Int × List Int
 | [] => (1, [])
 | a :: t => if a = 13 then (match t with | [] => (1, []) | b :: u => if b = 10 then (0, u) else (400, b :: u)) else (400, a :: t)
theorem Zbb {r : List Int} (h : (Zb r).1 = 0) : r = 13 :: 10 :: (Zb r).2 := by
 match r, h with
 | [], h => simp [Zb] at h
 | [a], h => by_cases q : a = 13 <;> simp [Zb, q] at h
 | a :: b :: u, h =>
  by_cases q : a = 13
  ·by_cases q1 : b = 10
   ·simp [Zb, q, q1]
   ·simp [Zb, q, q1] at h
  ·simp [Zb, q] at h
theorem ZcY (i : Int) (s : BA) (c : Int) (hc : c ≠ 0) : Ev (fun k => impl_chunks_end.l0 k i s c) (s, c) := by
 have hj : Ev (fun k => impl_chunks_end.j1 k i false s c) (s, c) := by
  apply ev_succ; simp only [impl_chunks_end.j1, Bool.false_eq_true, if_false]; exact Ev.now _
 apply ev_succ
 simp only [impl_chunks_end.l0, beq_eq_false_iff_ne.2 hc]
 exact ev_ite (fun _ => hj) (fun _ => hj)
theorem ZeN (s : BA) (c : Int) : Ev (fun k => impl_chunks_end.l0 k 2 s c) (s, c) := by
 apply ev_succ
 simp only [impl_chunks_end.l0, if_neg (show ¬ (2 : Int) < 2 by omega)]
 apply ev_succ; simp only [impl_chunks_end.j1, Bool.false_eq_true, if_false]; exact Ev.now _
theorem ZcZ (i b : Int) (hi0 : 0 ≤ i) (hi : i < 2) (hb : bt (⟨#[13, 10]⟩ : BA) i = b) (r : List Int) (hr : ∀ x ∈ r, 0 ≤ x ∧ x < 256) (X : BA × Int)
  (h0 : r = [] → X = (strOfNums r, 1)) (h1 : ∀ a t, r = a :: t → a ≠ b → X = (strOfNums r, 400))
  (h2 : ∀ t, r = b :: t → Ev (fun k => impl_chunks_end.l0 k (i + 1) (strOfNums t) 0) X) : Ev (fun k => impl_chunks_end.l0 k i (strOfNums r) 0) X := by
 have hw : wrap64 (i + 1) = i + 1 := wrap_id (by omega) (by omega)
 apply ev_succ
 simp only [impl_chunks_end.l0, if_pos hi, beq_self_eq_true]
 apply ev_succ
 simp only [impl_chunks_end.j1, if_true, hw, hb, if_pos hi0, if_pos hi]
 refine ev_ite (fun q => ?_) (fun q => ?_)
 ·rw [ZbY] at q
  rw [h0 q]; exact ZcY _ _ _ (by omega)
 ·rw [ZbY] at q
  match hm : r, q with
  | a :: t, _ =>
   have hs : (strOfNums (a :: t)).size = t.length + 1 := by rw [strOfNums_size]; rfl
   simp only [hs, if_pos (show (0 : Int) < ((t.length + 1 : Nat) : Int) by omega), Ze9 hr rfl, if_pos (show (1 : Int) ≤ ((t.length + 1 : Nat) : Int) by omega)]
   refine ev_ite (fun q1 => ?_) (fun q1 => ?_)
   ·subst q1
    have e := Zcm (a :: t) hr 1
    rw [hs] at e
    rw [e]
    exact h2 t rfl
   ·rw [h1 a t rfl q1]; exact ZcY _ _ _ (by omega)
theorem Zeb (r : List Int) (hr : ∀ x ∈ r, 0 ≤ x ∧ x < 256) : Ev (fun k => impl_chunks_end.f k (strOfNums r) 0) (strOfNums (Zb r).2, (Zb r).1) := by
 unfold impl_chunks_end.f
 refine ZcZ 0 13 (by omega) (by omega) rfl r hr _ (fun h => by rw [h]; rfl) (fun a t h q => by rw [h]; simp [Zb, q]) (fun t h => ?_)
 have ht : ∀ x ∈ t, 0 ≤ x ∧ x < 256 := fun x hx => hr x (by rw [h]; simp [hx])
 refine ZcZ 1 10 (by omega) (by omega) rfl t ht _ (fun h1 => by rw [h, h1]; rfl) (fun a u h1 q => by rw [h, h1]; simp [Zb, q]) (fun u h1 => ?_)
 rw [h, h1]
 exact ZeN _ _
def tw (r : List Int) : List Int := r.takeWhile fun c => decide (c ≠ 13)
def dw (r : List Int) : List Int := r.dropWhile fun c => decide (c ≠ 13)
theorem Zbs (r : List Int) : tw r ++ dw r = r := List.takeWhile_append_dropWhile
theorem ZdD : ∀ (r : List Int), (∀ x ∈ r, 0 ≤ x ∧ x < 256) → Lib.index (r.map fun n => UInt8.ofNat n.toNat) [13] = if dw r = [] then -1 else ((tw r).length : Int)
 | [], _ => rfl
 | c :: r, hr => by
  have hc := hr c (by simp)
  have ih := ZdD r (fun x hx => hr x (by simp [hx]))
  have e := ZaT hc.1 hc.2 13 (by omega)
  rw [List.map_cons, Lib.index]
  have c13 : (13 : UInt8) = UInt8.ofNat 13 := rfl
  simp only [List.isPrefixOf, Bool.and_true]
  rw [c13, e]
  by_cases q : c = ((13 : Nat) : Int)
  ·have q' : c = 13 := q
   rw [decide_eq_true q, if_pos rfl, q']
   simp [dw, tw]
  ·have q' : c ≠ 13 := q
   rw [decide_eq_false q, if_neg (by simp), ← c13, ih]
   have e1 : dw (c :: r) = dw r := by simp [dw, q']
   have e2 : tw (c :: r) = c :: tw r := by simp [tw, q']
   rw [e1, e2]
   by_cases q1 : dw r = []
   ·simp [q1]
   ·rw [if_neg q1, if_neg q1]
    rw [if_neg (by simp only [beq_iff_eq]; omega)]
    simp
theorem Zfa (r : List Int) (hr : ∀ x ∈ r, 0 ≤ x ∧ x < 256) (hl : r.length < 4294967281) : ∃ x, strings_Cut.f (strOfNums r) (⟨#[13]⟩ : BA) = some (strOfNums (tw r), x, decide (dw r ≠ [])) := by
 unfold strings_Cut.f
 rw [if_pos (by rw [strOfNums_size]; exact hl)]
 refine ⟨⟨(Lib.cut (strOfNums r).data.toList [13]).2.1.toArray⟩, ?_⟩
 congr 1
 have hi := ZdD r hr
 have hs : (strOfNums r).data.toList = r.map fun n => UInt8.ofNat n.toNat := by rw [strOfNums_data]
 have h13 : ((⟨#[13]⟩ : BA).data.toList) = [13] := rfl
 refine Prod.ext ?_ (Prod.ext rfl ?_)
 ·show (⟨(Lib.cut _ _).1.toArray⟩ : BA) = _
  apply ByteArray.ext
  rw [hs, h13]
  unfold Lib.cut
  rw [hi]
  by_cases q : dw r = []
  ·have ht : tw r = r := by have := Zbs r; rw [q, List.append_nil] at this; exact this
   rw [if_pos q, if_neg (by omega), ht]
   apply Array.toList_inj.mp
   rw [strOfNums_data]
  ·rw [if_neg q, if_pos (by omega)]
   apply Array.toList_inj.mp
   rw [strOfNums_data]
   simp only [Int.toNat_natCast]
   rw [← List.map_take]
   congr 1
   have := @List.take_left _ (tw r) (dw r)
   rw [Zbs] at this
   exact this
 ·show (Lib.cut _ _).2.2 = _
  rw [hs, h13]
  unfold Lib.cut
  rw [hi]
  by_cases q : dw r = []
  ·rw [if_pos q, if_neg (by omega)]; simp [q]
  ·rw [if_neg q, if_pos (by omega)]; simp [q]
def Za (r : List Int) : Int × List Int × Int :=
 if dw r = [] then ((phL 0 0 (tw r)).1, r, if tw r = [] ∨ (phL 0 0 (tw r)).2 = true then 1 else 400)
 else if (phL 0 0 (tw r)).2 = true then ((phL 0 0 (tw r)).1, (Zb (dw r)).2, (Zb (dw r)).1) else ((phL 0 0 (tw r)).1, r, 400)
theorem Zeu {r : List Int} (hr : ∀ x ∈ r, 0 ≤ x ∧ x < 256) : ∀ x ∈ tw r, 0 ≤ x ∧ x < 256 := fun x hx => hr x (by rw [← Zbs r]; exact List.mem_append_left _ hx)
theorem Zc0 {r : List Int} (hr : ∀ x ∈ r, 0 ≤ x ∧ x < 256) : ∀ x ∈ dw r, 0 ≤ x ∧ x < 256 := fun x hx => hr x (by rw [← Zbs r]; exact List.mem_append_right _ hx)
theorem Zc1 (r : List Int) : (tw r).length + (dw r).length = r.length := by rw [← List.length_append, Zbs]
theorem Zfb (r : List Int) : r.drop (tw r).length = dw r := by
 have := @List.drop_left _ (tw r) (dw r)
 rw [Zbs] at this
 exact this
theorem ZeO (r : List Int) (hr : ∀ x ∈ r, 0 ≤ x ∧ x < 256) (hl : r.length ≤ 1048576) : Ev (fun k => impl_chunks_size.f k (strOfNums r) 0) ((Za r).1, strOfNums (Za r).2.1, (Za r).2.2) := by
 obtain ⟨x, hx⟩ := Zfa r hr (by omega)
 have htl := Zc1 r
 unfold impl_chunks_size.f
 simp only [hx, Option.bind_some]
 have hp := ZbH (strOfNums (tw r)) (by rw [strOfNums_size]; omega)
 unfold ZcX at hp
 rw [ZaU _ (Zeu hr)] at hp
 refine Ev.bind hp ?_
 have hts : (strOfNums (tw r)).size = (tw r).length := strOfNums_size _
 have hrs : (strOfNums r).size = r.length := strOfNums_size _
 by_cases q : dw r = []
 ·simp only [q, ne_eq, not_true_eq_false, decide_false, Bool.false_eq_true, if_false]
  apply ev_succ
  simp only [impl_chunks_size.j0, Bool.false_eq_true, if_false]
  unfold Za
  rw [if_pos q]
  refine ev_iteB (fun q1 => ?_) (fun q1 => ?_)
  ·have q1' : tw r = [] := by
    rw [← ZbY]; simpa using q1
   rw [if_pos (.inl q1')]; exact Ev.now _
  ·have q1' : tw r ≠ [] := by
    rw [ne_eq, ← ZbY]; simpa using q1
   refine ev_iteB (fun q2 => ?_) (fun q2 => ?_)
   ·rw [if_pos (.inr q2)]; exact Ev.now _
   ·rw [if_neg (by simp [q1', q2])]; exact Ev.now _
 ·simp only [ne_eq, q, not_false_eq_true, decide_true, if_true]
  apply ev_succ
  simp only [impl_chunks_size.j0, Bool.false_eq_true, if_false, if_true]
  unfold Za
  rw [if_neg q]
  refine ev_iteB (fun q2 => ?_) (fun q2 => ?_)
  ·simp only [hts, hrs, if_pos (show (0 : Int) ≤ ((tw r).length : Int) by omega), if_pos (show ((tw r).length : Int) ≤ (r.length : Int) by omega)]
   have e := Zcm r hr (tw r).length
   rw [hrs, Zfb] at e
   rw [e, if_pos q2]
   exact Ev.bind (Zeb (dw r) (Zc0 hr)) (Ev.now _)
  ·rw [if_neg (by simp [q2])]; exact Ev.now _
theorem Zcv : ∀ (t : List Int) (i : Nat) (n : Int), i ≤ 4 → 0 ≤ n → n < 16 ^ i → 0 ≤ (phL i n t).1 ∧ (phL i n t).1 < 65536
 | [], i, n, h, h0, h1 => by have := ZdP h; simp only [phL]; omega
 | c :: r, i, n, h, h0, h1 => by
  have hd := ZbX c
  have := ZdP h
  unfold phL
  split
  ·simp
  ·split
   ·simp
   ·rename_i q q4
    exact Zcv r (i + 1) _ (by omega) (by omega) (by rw [Int.pow_succ]; omega)
theorem Zan (l : List Int) (x : BA) (n : Int) (s : BA) (c : Int) (hc : c ≠ 0) : Ev (fun k => impl_GetChunks.j1 k l x n s c) ((⟨#[]⟩ : BA), 0, c) := by
 apply ev_succ
 simp only [impl_GetChunks.j1, if_neg hc]
 exact Ev.now _
theorem ZdR (t : List Int) : 0 ≤ (phL 0 0 t).1 ∧ (phL 0 0 t).1 < 65536 := Zcv t 0 0 (by omega) (by omega) (by simp)
theorem ZeP (r : List Int) : (Za r).1 = (phL 0 0 (tw r)).1 := by
 unfold Za
 split
 ·rfl
 ·split <;> rfl
theorem Zau {r : List Int} (h : (Za r).2.2 = 0) : dw r = 13 :: 10 :: (Za r).2.1 := by
 unfold Za at h ⊢
 by_cases q : dw r = []
 ·rw [if_pos q] at h
  simp only at h
  split at h <;> omega
 ·rw [if_neg q] at h ⊢
  by_cases q1 : (phL 0 0 (tw r)).2 = true
  ·rw [if_pos q1] at h ⊢
   exact Zbb h
  ·rw [if_neg q1] at h
   simp at h
def chR : Nat → List Int → List Int → List Int × List Int × Int
 | 0, _, _ => ([], [], 1)
 | n + 1, r, x =>
  if (Za r).2.2 ≠ 0 then ([], [], (Za r).2.2)
  else if 200 < x.length + (Za r).1.toNat then ([], [], 413)
  else if (Za r).2.1.length < (Za r).1.toNat then ([], [], 1)
  else if (Zb ((Za r).2.1.drop (Za r).1.toNat)).1 ≠ 0 then ([], [], (Zb ((Za r).2.1.drop (Za r).1.toNat)).1)
  else if (Za r).1.toNat = 0 then (x, (Zb ((Za r).2.1.drop (Za r).1.toNat)).2, 0)
  else chR n (Zb ((Za r).2.1.drop (Za r).1.toNat)).2 (x ++ (Za r).2.1.take (Za r).1.toNat)
theorem Zc2 (r y : List Int) : ((Zb r).1 = 0 → Zb (r ++ y) = (0, (Zb r).2 ++ y)) ∧ ((Zb r).1 = 400 → (Zb (r ++ y)).1 = 400) ∧ ((Zb r).1 = 0 ∨ (Zb r).1 = 1 ∨ (Zb r).1 = 400) := by
 match r with
 | [] => exact ⟨fun h => by simp [Zb] at h, fun h => by simp [Zb] at h, .inr (.inl rfl)⟩
 | [a] =>
  by_cases q : a = 13
  ·exact ⟨fun h => by simp [Zb, q] at h, fun h => by simp [Zb, q] at h, .inr (.inl (by simp [Zb, q]))⟩
  ·exact ⟨fun h => by simp [Zb, q] at h, fun _ => by simp [Zb, q], .inr (.inr (by simp [Zb, q]))⟩
 | a :: b :: u =>
  by_cases q : a = 13
  ·by_cases q1 : b = 10
   ·exact ⟨fun _ => by simp [Zb, q, q1], fun h => by simp [Zb, q, q1] at h, .inl (by simp [Zb, q, q1])⟩
   ·exact ⟨fun h => by simp [Zb, q, q1] at h, fun _ => by simp [Zb, q, q1], .inr (.inr (by simp [Zb, q, q1]))⟩
  ·exact ⟨fun h => by simp [Zb, q] at h, fun _ => by simp [Zb, q], .inr (.inr (by simp [Zb, q]))⟩
theorem Zcw {r : List Int} (h : (Zb r).1 = 1) : r.length ≤ 1 := by
 match r, h with
 | [], _ => simp
 | [a], _ => simp
 | a :: b :: u, h =>
  by_cases q : a = 13
  ·by_cases q1 : b = 10 <;> simp [Zb, q, q1] at h
  ·simp [Zb, q] at h
theorem Zai {r : List Int} (h : (Zb r).1 = 0) : r.length = (Zb r).2.length + 2 := by
 have := congrArg List.length (Zbb h)
 simpa using this
theorem ZdE : ∀ (t y : List Int) (i : Nat) (n : Int), t ≠ [] → (phL i n t).2 = false → (phL i n (t ++ y)).2 = false
 | [], _, _, _, h, _ => absurd rfl h
 | c :: t, y, i, n, _, h => by
  rw [List.cons_append, phL]
  rw [phL] at h
  by_cases q : ZJ c < 0
  ·rw [if_pos q]
  rw [if_neg q] at h ⊢
  by_cases q1 : i ≥ 4
  ·rw [if_pos q1]
  rw [if_neg q1] at h ⊢
  cases t with
  | nil => simp [phL] at h
  | cons d u => exact ZdE (d :: u) y (i + 1) _ (by simp) h
theorem Zec (r y : List Int) : (dw r = [] → tw (r ++ y) = tw r ++ tw y ∧ tw r = r ∧ dw (r ++ y) = dw y) ∧ (dw r ≠ [] → tw (r ++ y) = tw r ∧ dw (r ++ y) = dw r ++ y) := by
 induction r with
 | nil => simp [tw, dw]
 | cons c r ih =>
  by_cases q : c = 13
  ·simp [tw, dw, q]
  ·have e1 : ∀ z : List Int, tw (c :: z) = c :: tw z := fun z => by simp [tw, q]
   have e2 : ∀ z : List Int, dw (c :: z) = dw z := fun z => by simp [dw, q]
   simp only [List.cons_append, e1, e2]
   refine ⟨fun h => ?_, fun h => ?_⟩
   ·obtain ⟨h1, h2, h3⟩ := ih.1 h
    exact ⟨by rw [h1], by rw [h2], h3⟩
   ·obtain ⟨h1, h2⟩ := ih.2 h
    exact ⟨by rw [h1], h2⟩
theorem Zed (r y : List Int) : ((Za r).2.2 = 0 → Za (r ++ y) = ((Za r).1, (Za r).2.1 ++ y, 0)) ∧ ((Za r).2.2 = 400 → (Za (r ++ y)).2.2 = 400) ∧ ((Za r).2.2 = 0 ∨ (Za r).2.2 = 1 ∨ (Za r).2.2 = 400) := by
 obtain ⟨t1, t2⟩ := Zec r y
 by_cases q : dw r = []
 ·obtain ⟨h1, h2, h3⟩ := t1 q
  have e : Za r = ((phL 0 0 (tw r)).1, r, if tw r = [] ∨ (phL 0 0 (tw r)).2 = true then 1 else 400) := by unfold Za; rw [if_pos q]
  rw [e]
  simp only []
  by_cases q1 : tw r = [] ∨ (phL 0 0 (tw r)).2 = true
  ·rw [if_pos q1]
   exact ⟨fun h => absurd h (by decide), fun h => absurd h (by decide), .inr (.inl rfl)⟩
  ·rw [if_neg q1]
   refine ⟨fun h => absurd h (by decide), fun _ => ?_, .inr (.inr rfl)⟩
   rw [not_or] at q1
   have hb := ZdE (tw r) (tw y) 0 0 q1.1 (by simpa using q1.2)
   rw [← h1] at hb
   unfold Za
   have hne : tw (r ++ y) ≠ [] := by rw [h1]; simp [q1.1]
   split
   ·simp only []
    rw [if_neg (by rw [hb]; simp [hne])]
   ·rw [if_neg (by rw [hb]; simp)]
 ·obtain ⟨h1, h2⟩ := t2 q
  obtain ⟨a1, a2, a3⟩ := Zc2 (dw r) y
  have q' : ¬ dw (r ++ y) = [] := by rw [h2]; simp [q]
  by_cases q1 : (phL 0 0 (tw r)).2 = true
  ·have e : Za r = ((phL 0 0 (tw r)).1, (Zb (dw r)).2, (Zb (dw r)).1) := by unfold Za; rw [if_neg q, if_pos q1]
   have e' : Za (r ++ y) = ((phL 0 0 (tw r)).1, (Zb (dw r ++ y)).2, (Zb (dw r ++ y)).1) := by unfold Za; rw [if_neg q', h1, if_pos q1, h2]
   rw [e, e']
   simp only []
   refine ⟨fun h => by rw [a1 h], a2, a3⟩
  ·have e : Za r = ((phL 0 0 (tw r)).1, r, 400) := by unfold Za; rw [if_neg q, if_neg q1]
   have e' : Za (r ++ y) = ((phL 0 0 (tw r)).1, r ++ y, 400) := by unfold Za; rw [if_neg q', h1, if_neg q1]
   rw [e, e']
   exact ⟨fun h => absurd (show (400 : Int) = 0 from h) (by decide), fun _ => rfl, .inr (.inr rfl)⟩
theorem Zbc {r : List Int} (h : (Za r).2.2 = 0) : (Za r).2.1.length + 2 ≤ r.length := by
 have h1 := congrArg List.length (Zau h)
 have h2 := Zc1 r
 simp only [List.length_cons] at h1
 omega
theorem ZdS {r y : List Int} (h : (Za r).2.2 = 1) (h0 : (Za (r ++ y)).2.2 = 0) : (Za (r ++ y)).2.1.length < y.length := by
 obtain ⟨t1, t2⟩ := Zec r y
 by_cases q : dw r = []
 ·obtain ⟨h1, h2, h3⟩ := t1 q
  have hg := Zau h0
  rw [h3] at hg
  have h5 := congrArg List.length hg
  have h6 := Zc1 y
  simp only [List.length_cons] at h5
  omega
 ·obtain ⟨h1, h2⟩ := t2 q
  have q' : ¬ dw (r ++ y) = [] := by rw [h2]; simp [q]
  by_cases q1 : (phL 0 0 (tw r)).2 = true
  ·have e : Za r = ((phL 0 0 (tw r)).1, (Zb (dw r)).2, (Zb (dw r)).1) := by unfold Za; rw [if_neg q, if_pos q1]
   rw [e] at h
   have h5 := Zcw h
   have hg := Zau h0
   rw [h2] at hg
   have h6 := congrArg List.length hg
   simp only [List.length_append, List.length_cons] at h6
   omega
  ·have e : Za r = ((phL 0 0 (tw r)).1, r, 400) := by unfold Za; rw [if_neg q, if_neg q1]
   rw [e] at h
   exact absurd (show (400 : Int) = 1 from h) (by decide)
theorem ZaA : ∀ (n : Nat) (r x : List Int), (chR n r x).2.2 = 0 → (chR n r x).2.1.length ≤ r.length
 | 0, r, x, h => by simp [chR] at h
 | n + 1, r, x, h => by
  rw [chR] at h ⊢
  by_cases c0 : (Za r).2.2 = 0
  ·have el := Zbc c0
   rw [if_neg (fun h => h c0)] at h ⊢
   generalize (Za r).1.toNat = k at h ⊢
   generalize (Za r).2.1 = t at h el ⊢
   by_cases c1 : 200 < x.length + k
   ·rw [if_pos c1] at h; exact absurd h (by decide)
   rw [if_neg c1] at h ⊢
   by_cases c2 : t.length < k
   ·rw [if_pos c2] at h; exact absurd h (by decide)
   rw [if_neg c2] at h ⊢
   by_cases c4 : (Zb (t.drop k)).1 = 0
   ·rw [if_neg (fun h => h c4)] at h ⊢
    have h5 := Zai c4
    rw [List.length_drop] at h5
    by_cases c6 : k = 0
    ·rw [if_pos c6]; simp only []; omega
    ·rw [if_neg c6] at h ⊢
     have := ZaA n _ _ h
     omega
   ·rw [if_pos c4] at h; exact absurd h c4
  ·rw [if_pos c0] at h; exact absurd h c0
theorem ZdF : ∀ (n m : Nat) (r x y : List Int), r.length < n → (r ++ y).length < m →
  ((chR n r x).2.2 = 0 → chR m (r ++ y) x = ((chR n r x).1, (chR n r x).2.1 ++ y, 0)) ∧
  ((chR n r x).2.2 ≠ 0 → (chR n r x).2.2 ≠ 1 → (chR m (r ++ y) x).2.2 = (chR n r x).2.2) ∧
  ((chR n r x).2.2 = 1 → (chR m (r ++ y) x).2.2 = 0 → (chR m (r ++ y) x).2.1.length < y.length)
 | 0, _, r, _, _, h, _ => by omega
 | _ + 1, 0, r, _, y, _, h => by omega
 | n + 1, m + 1, r, x, y, hn, hm => by
  obtain ⟨s0, s4, sc⟩ := Zed r y
  rw [chR, chR]
  by_cases c0 : (Za r).2.2 = 0
  ·rw [if_neg (fun h => h c0)]
   have e := s0 c0
   have el := Zbc c0
   rw [e]
   simp only [ne_eq, not_true_eq_false, if_false]
   generalize (Za r).1.toNat = k
   generalize hT : (Za r).2.1 = t at el
   clear s0 s4 sc c0 e hT
   by_cases c1 : 200 < x.length + k
   ·rw [if_pos c1, if_pos c1]
    exact ⟨fun h => absurd h (by decide), fun _ _ => rfl, fun h => absurd h (by decide)⟩
   rw [if_neg c1, if_neg c1]
   by_cases c2 : t.length < k
   ·rw [if_pos c2]
    refine ⟨fun h => absurd h (by decide), fun _ h => absurd rfl h, fun _ => ?_⟩
    by_cases c3 : (t ++ y).length < k
    ·rw [if_pos c3]; exact fun h => absurd h (by decide)
    rw [if_neg c3]
    have ed : (t ++ y).drop k = y.drop (k - t.length) := by rw [List.drop_append, List.drop_eq_nil_of_le (by omega)]; rfl
    rw [ed]
    by_cases c4 : (Zb (y.drop (k - t.length))).1 = 0
    ·rw [if_neg (fun h => h c4)]
     have h5 := Zai c4
     rw [List.length_drop] at h5
     rw [List.length_append] at c3
     by_cases c6 : k = 0
     ·omega
     rw [if_neg c6]
     intro h7
     have h8 := (ZaA m (Zb (y.drop (k - t.length))).2 (x ++ (t ++ y).take k) h7)
     omega
    ·rw [if_pos c4]; intro h; exact absurd h c4
   have c3 : ¬ (t ++ y).length < k := by rw [List.length_append]; omega
   rw [if_neg c2, if_neg c3]
   have ed : (t ++ y).drop k = t.drop k ++ y := by rw [List.drop_append_of_le_length (by omega)]
   have et : (t ++ y).take k = t.take k := by rw [List.take_append_of_le_length (by omega)]
   rw [ed, et]
   obtain ⟨a0, a4, ac⟩ := Zc2 (t.drop k) y
   by_cases c4 : (Zb (t.drop k)).1 = 0
   ·have h5 := Zai c4
    rw [List.length_drop] at h5
    rw [if_neg (fun h => h c4), a0 c4]
    simp only [ne_eq, not_true_eq_false, if_false]
    by_cases c6 : k = 0
    ·rw [if_pos c6, if_pos c6]
     exact ⟨fun _ => rfl, fun h => absurd rfl h, fun h => absurd (show (0 : Int) = 1 from h) (by decide)⟩
    ·rw [if_neg c6, if_neg c6]
     have hm' : ((Zb (t.drop k)).2 ++ y).length < m := by rw [List.length_append] at hm ⊢; omega
     exact ZdF n m (Zb (t.drop k)).2 (x ++ t.take k) y (by omega) hm'
   ·rw [if_pos c4]
    refine ⟨fun h => absurd h c4, fun h0 h1 => ?_, fun h => ?_⟩
    ·have h4 : (Zb (t.drop k)).1 = 400 := by simp only [] at h0 h1; omega
     rw [if_pos (by rw [a4 h4]; decide), a4 h4, h4]
    ·have h6 := Zcw h
     rw [List.length_drop] at h6
     by_cases c5 : (Zb (t.drop k ++ y)).1 = 0
     ·rw [if_neg (fun h => h c5)]
      have h7 := Zai c5
      rw [List.length_append, List.length_drop] at h7
      by_cases c6 : k = 0
      ·rw [if_pos c6]; intro _; simp only []; omega
      ·rw [if_neg c6]
       intro h8
       have h9 := ZaA m _ _ h8
       omega
     ·rw [if_pos c5]; intro h8; exact absurd h8 c5
  ·rw [if_pos c0]
   refine ⟨fun h => absurd h c0, fun h0 h1 => ?_, fun h => ?_⟩
   ·have h4 : (Za r).2.2 = 400 := by simp only [] at h1; omega
    rw [if_pos (by rw [s4 h4]; decide), s4 h4, h4]
   ·by_cases c5 : (Za (r ++ y)).2.2 = 0
    ·have h6 := ZdS h c5
     rw [if_neg (fun h => h c5)]
     generalize (Za (r ++ y)).1.toNat = k
     generalize (Za (r ++ y)).2.1 = t at h6
     split
     ·intro h; exact absurd h (by decide)
     ·split
      ·intro h; exact absurd h (by decide)
      ·by_cases c7 : (Zb (t.drop k)).1 = 0
       ·rw [if_neg (fun h => h c7)]
        have h7 := Zai c7
        rw [List.length_drop] at h7
        split
        ·intro _; simp only []; omega
        ·intro h8
         have h9 := ZaA m _ _ h8
         omega
       ·rw [if_pos c7]; intro h8; exact absurd h8 c7
    ·rw [if_pos c5]; intro h8; exact absurd h8 c5
def chV (l : List Int) (r : List Int × List Int × Int) : BA × Int × Int := if r.2.2 = 0 then (strOfNums r.1, (l.length : Int) - (r.2.1.length : Int), 0) else ((⟨#[]⟩ : BA), 0, r.2.2)
theorem ZaN (l a b : List Int) {c : Int} (h : c ≠ 0) : chV l (a, b, c) = ((⟨#[]⟩ : BA), 0, c) := by unfold chV; rw [if_neg h]
theorem Zc3 (l a b : List Int) : chV l (a, b, 0) = (strOfNums a, (l.length : Int) - (b.length : Int), 0) := by unfold chV; rw [if_pos rfl]
theorem Ze0 (a b : List Int) (ha : ∀ x ∈ a, 0 ≤ x ∧ x < 256) (hb : ∀ x ∈ b, 0 ≤ x ∧ x < 256) : strOfNums a ++ strOfNums b = strOfNums (a ++ b) := by
 apply bytesOf_inj
 rw [bytesOf_append, bytesOf_strOfNums a ha, bytesOf_strOfNums b hb, bytesOf_strOfNums (a ++ b) (fun x hx => (List.mem_append.1 hx).elim (ha x) (hb x))]
theorem ZbA (l : List Int) (hl : l.length ≤ 1048576) : ∀ (n : Nat) (R x : List Int), R.length < n → R.length ≤ l.length → (∀ z ∈ R, 0 ≤ z ∧ z < 256) → (∀ z ∈ x, 0 ≤ z ∧ z < 256) → x.length ≤ 200 → Ev (fun k => impl_GetChunks.l0 k l (strOfNums x) (strOfNums R) 0) (chV l (chR n R x))
 | 0, R, x, h, _, _, _, _ => by omega
 | n + 1, R, x, hn, hR, hr, hxr, hx => by
  have hsz := ZeO R hr (by omega)
  rw [chR]
  apply ev_succ
  simp only [impl_GetChunks.l0]
  refine Ev.bind hsz ?_
  by_cases hc : (Za R).2.2 = 0
  ·rw [if_neg (fun h => h hc)]
   have hlen := Zbc hc
   have hn0 := ZdR (tw R)
   rw [← ZeP] at hn0
   have htr : ∀ z ∈ (Za R).2.1, 0 ≤ z ∧ z < 256 := fun z hz => Zc0 hr z (by rw [Zau hc]; simp [hz])
   obtain ⟨m, hm⟩ : ∃ m : Nat, (Za R).1 = (m : Int) := ⟨(Za R).1.toNat, by omega⟩
   simp only [hc, if_true, hm, Int.toNat_natCast]
   rw [hm] at hn0
   generalize (Za R).2.1 = t at hlen htr
   clear hsz hc hm
   have hw : wrap64 (((strOfNums x).size : Int) + (m : Int)) = ((x.length + m : Nat) : Int) := by rw [strOfNums_size, wrap_id (by omega) (by omega)]; omega
   have hwl : ∀ u : List Int, u.length ≤ l.length → wrap64 ((l.length : Int) - ((strOfNums u).size : Int)) = (l.length : Int) - (u.length : Int) := by
    intro u hu; rw [strOfNums_size, wrap_id (by omega) (by omega)]
   have hts : (strOfNums t).size = t.length := strOfNums_size t
   have hxs : (strOfNums x).size = x.length := strOfNums_size x
   simp only [hw, hts]
   by_cases q1 : 200 < x.length + m
   ·rw [if_pos q1, ZaN _ _ _ (by decide)]
    simp only [if_pos (show ((x.length + m : Nat) : Int) > 200 by omega)]
    exact Zan _ _ _ _ _ (by decide)
   rw [if_neg q1]
   simp only [if_neg (show ¬ ((x.length + m : Nat) : Int) > 200 by omega)]
   by_cases q2 : t.length < m
   ·rw [if_pos q2, ZaN _ _ _ (by decide)]
    simp only [if_pos (show (m : Int) > (t.length : Int) by omega)]
    exact Zan _ _ _ _ _ (by decide)
   rw [if_neg q2]
   have e1 : (strOfNums t).extract 0 m = strOfNums (t.take m) := by rw [Zea _ htr]; rfl
   have e2 : (strOfNums t).extract m t.length = strOfNums (t.drop m) := by
    have := Zcm _ htr m
    rw [strOfNums_size] at this
    exact this
   have hsz1 : (strOfNums (t.take m)).size = m := by rw [strOfNums_size, List.length_take]; omega
   have hend := Zeb (t.drop m) (fun z hz => htr z (List.mem_of_mem_drop hz))
   simp only [if_neg (show ¬ (m : Int) > (t.length : Int) by omega), if_pos (show (0 : Int) ≤ (m : Int) by omega), if_pos (show (m : Int) ≤ (t.length : Int) by omega), e1, e2, hsz1, hxs, if_pos (show x.length + m ≤ 9223372036854775807 by omega)]
   refine Ev.bind hend ?_
   have e3 : strOfNums x ++ strOfNums (t.take m) = strOfNums (x ++ t.take m) := Ze0 _ _ hxr (fun z hz => htr z (List.mem_of_mem_take hz))
   simp only [e3]
   by_cases q3 : (Zb (t.drop m)).1 = 0
   ·rw [if_neg (fun h => h q3)]
    have h5 := Zai q3
    have hz := Zbb q3
    have hur : ∀ z ∈ (Zb (t.drop m)).2, 0 ≤ z ∧ z < 256 := fun z hz' => htr z (List.mem_of_mem_drop (i := m) (by rw [hz]; simp [hz']))
    rw [List.length_drop] at h5
    rw [q3]
    generalize (Zb (t.drop m)).2 = u at h5 hur
    clear hend hz q3
    apply ev_succ
    simp only [impl_GetChunks.j1, if_true]
    by_cases q4 : m = 0
    ·rw [if_pos q4, Zc3]
     subst q4
     simp only [if_pos (show ((0 : Nat) : Int) = 0 from rfl), List.take_zero, List.append_nil]
     rw [hwl u (by omega)]
     exact Ev.now _
    ·rw [if_neg q4]
     simp only [if_neg (show ¬ (m : Int) = 0 by omega)]
     refine ZbA l hl n u (x ++ t.take m) (by omega) (by omega) hur ?_ (by rw [List.length_append, List.length_take]; omega)
     intro z hz
     rcases List.mem_append.1 hz with hz | hz
     ·exact hxr z hz
     ·exact htr z (List.mem_of_mem_take hz)
   ·rw [if_pos q3, ZaN _ _ _ q3]
    exact Zan _ _ _ _ _ q3
  ·rw [if_pos hc, ZaN _ _ _ hc]
   simp only [if_neg hc]
   exact Zan _ _ _ _ _ hc
theorem Zcn (l : List Int) (hl : l.length ≤ 1048576) (hr : ∀ x ∈ l, 0 ≤ x ∧ x < 256) (p : Nat) (hp : p ≤ l.length) (n : Nat) (hn : (l.drop p).length < n) : Ev (fun k => impl_GetChunks.f k l (p : Int)) (chV l (chR n (l.drop p) [])) := by
 unfold impl_GetChunks.f
 simp only [ZdQ, Option.bind_some, decide_eq_true (show (0 : Int) ≤ (p : Int) by omega), decide_eq_true (show (p : Int) ≤ (l.length : Int) by omega), Bool.and_self, if_true, if_pos (show (0 : Int) ≤ (p : Int) by omega), if_pos (show (p : Int) ≤ (l.length : Int) by omega), Int.toNat_natCast]
 exact ZbA l hl n (l.drop p) [] hn (by rw [List.length_drop]; omega) (fun z hz => hr z (List.mem_of_mem_drop hz)) (by simp) (by simp)
theorem Zdr (s : BA) : s.data.toList = (bytesOf s).map fun n => UInt8.ofNat n.toNat := by
 have h := congrArg (fun b : BA => b.data.toList) (strOfNums_bytesOf s)
 simp only [strOfNums_data] at h
 exact h.symm
def Zy : List Int → List Int → List (List Int)
 | cur, [] => [cur]
 | cur, [c] => [cur ++ [c]]
 | cur, c :: d :: r => if c = 13 ∧ d = 10 then cur :: Zy [] r else Zy (cur ++ [c]) (d :: r)
def Zg (l : List Int) : List BA := (Zy [] l).map strOfNums
def ZR : List Int → Option Nat
 | [] => none
 | [_] => none
 | c :: d :: r => if c = 13 ∧ d = 10 then some 0 else (ZR (d :: r)).map (· + 1)
theorem Zc4 : ∀ (l cur : List Int), Zy cur l = match ZR l with
  | none => [cur ++ l]
  | some i => (cur ++ l.take i) :: Zy [] (l.drop (i + 2))
 | [], cur => by simp [Zy, ZR]
 | [c], cur => by simp [Zy, ZR]
 | c :: d :: r, cur => by
  rw [Zy, ZR]
  by_cases q : c = 13 ∧ d = 10
  ·rw [if_pos q, if_pos q]; simp
  ·rw [if_neg q, if_neg q, Zc4 (d :: r) (cur ++ [c])]
   cases h : ZR (d :: r) with
   | none => simp
   | some i => simp
theorem ZdG : ∀ (l : List Int) (i : Nat), ZR l = some i → i + 2 ≤ l.length
 | [], i, h => by simp [ZR] at h
 | [c], i, h => by simp [ZR] at h
 | c :: d :: r, i, h => by
  rw [ZR] at h
  split at h
  ·injection h with h; subst h; simp
  ·cases h2 : ZR (d :: r) with
   | none => rw [h2] at h; cases h
   | some j =>
    rw [h2] at h
    simp only [Option.map_some, Option.some.injEq] at h
    have h3 := ZdG (d :: r) j h2
    simp only [List.length_cons] at h3 ⊢
    omega
theorem Ze1 (t : List Int) (hr : ∀ x ∈ t, 0 ≤ x ∧ x < 256) : ([13, 10] : List UInt8).isPrefixOf (t.map fun n => UInt8.ofNat n.toNat) = decide (t.take 2 = [13, 10]) := by
 match t, hr with
 | [], _ => rfl
 | [a], _ => simp [List.isPrefixOf]
 | a :: b :: r, hr =>
  have ha := hr a (by simp); have hb := hr b (by simp)
  have e1 := ZaT ha.1 ha.2 13 (by omega); have e2 := ZaT hb.1 hb.2 10 (by omega)
  simp only [List.map_cons, List.isPrefixOf, Bool.and_true]
  have c13 : (13 : UInt8) = UInt8.ofNat 13 := rfl
  have c10 : (10 : UInt8) = UInt8.ofNat 10 := rfl
  rw [c13, c10, e1, e2]
  rw [Bool.eq_iff_iff]
  simp
theorem ZbZ : ∀ (t : List Int), (∀ x ∈ t, 0 ≤ x ∧ x < 256) → Lib.index (t.map fun n => UInt8.ofNat n.toNat) [13, 10] = match ZR t with
  | none => (-1 : Int)
  | some i => (i : Int)
 | [], _ => rfl
 | [c], hr => by
  have hp := Ze1 [c] hr
  simp only [List.map_cons, List.map_nil] at hp ⊢
  rw [Lib.index, hp]
  simp [ZR, Lib.index]
 | c :: d :: r, hr => by
  have hp := Ze1 (c :: d :: r) hr
  have ih := ZbZ (d :: r) (fun x hx => hr x (by simp [hx]))
  rw [List.map_cons] at hp ⊢
  rw [Lib.index, hp, ZR, ih]
  by_cases q : c = 13 ∧ d = 10
  ·rw [if_pos q, q.1, q.2]; rfl
  ·rw [if_neg q, decide_eq_false (by simpa using q)]
   cases h : ZR (d :: r) with
   | none => rfl
   | some i =>
    simp only [Option.map_some, Bool.false_eq_true, if_false]
    rw [if_neg (by simp only [beq_iff_eq]; omega)]
    simp
theorem Zee (s : BA) : Lib.indexB s ⟨#[13, 10]⟩ = match ZR (bytesOf s) with
  | none => (-1 : Int)
  | some i => (i : Int) := by
 show Lib.index s.data.toList [13, 10] = _
 rw [Zdr, ZbZ _ (bytesOf_range s)]
theorem ZcK : ∀ (n : Nat) (s : BA), s.size ≤ n → Lib.splitB ⟨#[13, 10]⟩ 0 (Lib.countB s ⟨#[13, 10]⟩) s = Zg (bytesOf s) := by
 intro n
 induction n with
 | zero =>
  intro s h
  have h0 : bytesOf s = [] := List.eq_nil_of_length_eq_zero (by rw [bytesOf_length]; omega)
  have hi : Lib.indexB s ⟨#[13, 10]⟩ = -1 := by rw [Zee, h0]; rfl
  rw [Lib.splitB_miss _ _ _ _ hi]
  unfold Zg
  rw [h0]
  have : s = strOfNums [] := by rw [← h0, strOfNums_bytesOf]
  rw [this]; rfl
 | succ n ih =>
  intro s h
  have hi := Zee s
  unfold Zg
  rw [Zc4]
  cases q : ZR (bytesOf s) with
  | none =>
   rw [q] at hi
   rw [Lib.splitB_miss _ _ _ _ hi]
   simp [strOfNums_bytesOf]
  | some i =>
   rw [q] at hi
   simp only [] at hi ⊢
   have hle := ZdG _ _ q
   rw [bytesOf_length] at hle
   have h1 : 1 ≤ (⟨#[13, 10]⟩ : BA).size := by decide
   rw [Lib.countB_hit s ⟨#[13, 10]⟩ _ h1 hi, Nat.add_comm, Lib.splitB_hit _ _ _ _ _ hi]
   have e1 : bytesOf (s.extract (i + (⟨#[13, 10]⟩ : BA).size) s.size) = (bytesOf s).drop (i + 2) := by
    rw [bytesOf_extract, List.take_of_length_le (by rw [bytesOf_length]; exact Nat.le_refl _)]
    rfl
   have e2 : s.extract 0 (i + 0) = strOfNums ((bytesOf s).take i) := by
    apply bytesOf_inj
    rw [bytesOf_extract, Nat.add_zero, List.drop_zero, bytesOf_strOfNums]
    intro x hx
    exact bytesOf_range s x (List.mem_of_mem_take hx)
   have hsz : (s.extract (i + (⟨#[13, 10]⟩ : BA).size) s.size).size ≤ n := by
    rw [size_len, e1, List.length_drop, bytesOf_length]; omega
   rw [ih _ hsz, e1, e2]
   simp [Zg]
theorem Zfg (t : List Int) (hr : ∀ x ∈ t, 0 ≤ x ∧ x < 256) : ([13, 10, 13, 10] : List UInt8).isPrefixOf (t.map fun n => UInt8.ofNat n.toNat) = decide (t.take 4 = [13, 10, 13, 10]) := by
 match t, hr with
 | [], _ => rfl
 | [a], _ => simp [List.isPrefixOf]
 | [a, b], _ => simp [List.isPrefixOf]
 | [a, b, c], _ => simp [List.isPrefixOf]
 | a :: b :: c :: d :: r, hr =>
  have ha := hr a (by simp); have hb := hr b (by simp); have hc := hr c (by simp); have hd := hr d (by simp)
  have e1 := ZaT ha.1 ha.2 13 (by omega); have e2 := ZaT hb.1 hb.2 10 (by omega); have e3 := ZaT hc.1 hc.2 13 (by omega); have e4 := ZaT hd.1 hd.2 10 (by omega)
  simp only [List.map_cons, List.isPrefixOf, Bool.and_true]
  have c13 : (13 : UInt8) = UInt8.ofNat 13 := rfl
  have c10 : (10 : UInt8) = UInt8.ofNat 10 := rfl
  rw [c13, c10, e1, e2, e3, e4]
  rw [Bool.eq_iff_iff]
  simp
def Zk : Nat → List Int → Int
 | _, [] => -1
 | i, c :: r => if (c :: r).take 4 = [13, 10, 13, 10] then (i : Int) + 4 else Zk (i + 1) r
theorem Zav : ∀ (t : List Int) (i : Nat), t.length < 4 → Zk i t = -1
 | [], _, _ => rfl
 | c :: r, i, h => by
  rw [Zk, if_neg, Zav r (i + 1) (by simp at h; omega)]
  intro e
  have := congrArg List.length e
  simp at this h
  omega
theorem ZaV : ∀ (t : List Int) (i : Nat), Zk i t ≤ i + t.length ∧ -1 ≤ Zk i t
 | [], _ => by simp [Zk]
 | c :: r, i => by
  rw [Zk]
  split
  ·rename_i e
   have := congrArg List.length e
   simp at this
   simp; omega
  ·have := ZaV r (i + 1)
   simp; omega
theorem Zb0 : ∀ (t : List Int) (i : Nat), (∀ x ∈ t, 0 ≤ x ∧ x < 256) → (if Lib.index (t.map fun n => UInt8.ofNat n.toNat) [13, 10, 13, 10] < 0 then (-1 : Int) else i + Lib.index (t.map fun n => UInt8.ofNat n.toNat) [13, 10, 13, 10] + 4) = Zk i t
 | [], i, _ => rfl
 | c :: r, i, hr => by
  have hp := Zfg (c :: r) hr
  have ih := Zb0 r (i + 1) (fun x hx => hr x (by simp [hx]))
  have hg := Lib.index_ge (r.map fun n => UInt8.ofNat n.toNat) [13, 10, 13, 10]
  rw [List.map_cons] at hp ⊢
  rw [Lib.index, hp, Zk]
  by_cases q : (c :: r).take 4 = [13, 10, 13, 10]
  ·rw [if_pos q, decide_eq_true q]; simp
  ·rw [if_neg q, decide_eq_false q, ← ih]
   simp only [Bool.false_eq_true, if_false, beq_iff_eq]
   by_cases q1 : Lib.index (r.map fun n => UInt8.ofNat n.toNat) [13, 10, 13, 10] = -1
   ·rw [if_pos q1, q1]; rfl
   ·rw [if_neg q1, if_neg (by omega), if_neg (by omega)]
    rw [show ((i + 1 : Nat) : Int) = i + 1 from rfl]; omega
def Zc (l : List Int) : Int := Zk 0 (l.take 400)
theorem Ze2 (l : List Int) : mn (l.length : Int) 400 = ((min l.length 400 : Nat) : Int) := by unfold mn; split <;> omega
theorem Zev (l : List Int) : l.take (min l.length 400) = l.take 400 := by
 rcases Nat.le_total l.length 400 with h | h
 ·rw [Nat.min_eq_left h, List.take_of_length_le (Nat.le_refl _), List.take_of_length_le h]
 ·rw [Nat.min_eq_right h]
theorem ZaG (l : List Int) (hr : ∀ x ∈ l, 0 ≤ x ∧ x < 256) : impl_HeadEnd.f l = some (Zc l) := by
 unfold impl_HeadEnd.f
 have hm := Ze2 l
 rw [hm, if_pos (by omega), if_pos (by omega), Int.toNat_natCast, Zev]
 have hsz : (strOfNums (l.take 400)).size ≤ 400 := by rw [strOfNums_size, List.length_take]; omega
 unfold strings_Index.f
 rw [if_pos (by omega), Option.bind_some, strOfNums_data]
 have h0 := Zb0 (l.take 400) 0 (fun x hx => hr x (List.mem_of_mem_take hx))
 have hg := Lib.index_ge ((l.take 400).map fun n => UInt8.ofNat n.toNat) [13, 10, 13, 10]
 have hl := Lib.index_le ((l.take 400).map fun n => UInt8.ofNat n.toNat) [13, 10, 13, 10]
 rw [List.length_map, List.length_take] at hl
 unfold Zc
 rw [← h0]
 change (if Lib.index ((l.take 400).map fun n => UInt8.ofNat n.toNat) [13, 10, 13, 10] < 0 then some (-1) else some (wrap64 (Lib.index ((l.take 400).map fun n => UInt8.ofNat n.toNat) [13, 10, 13, 10] + 4))) = _
 by_cases q : Lib.index ((l.take 400).map fun n => UInt8.ofNat n.toNat) [13, 10, 13, 10] < 0
 ·rw [if_pos q, if_pos q]
 ·rw [if_neg q, if_neg q, wrap_id (by omega) (by omega)]; congr 1; simp
theorem Zb1 (l : List Int) (hl : l.length ≤ 9223372036854775000) (hr : ∀ x ∈ l, 0 ≤ x ∧ x < 256) : Ev (fun k => spec_HeadEnd.f k l) (Zc l) := by
 have key : ∀ (n i : Nat), i + n = 400 → Ev (fun k => spec_HeadEnd.l0 k l (i : Int)) (Zk i ((l.take 400).drop i)) := by
  intro n
  induction n with
  | zero =>
   intro i hi
   have e0 : (l.take 400).drop i = [] := List.drop_eq_nil_of_le (by rw [List.length_take]; omega)
   rw [e0, Zk]
   apply ev_succ
   simp only [spec_HeadEnd.l0]
   refine ev_ite (fun _ => ?_) (fun _ => ?_)
   ·rw [decide_eq_false (by unfold wrap64; omega)]
    apply ev_succ; simp only [spec_HeadEnd.j1, Bool.false_eq_true, if_false]; exact Ev.now _
   ·apply ev_succ; simp only [spec_HeadEnd.j1, Bool.false_eq_true, if_false]; exact Ev.now _
  | succ n ih =>
   intro i hi
   rcases Nat.lt_or_ge i 400 with hlt | hge
   ·have hw3 : wrap64 ((i : Int) + 3) = ((i + 3 : Nat) : Int) := by rw [wrap_id (by omega) (by omega)]; rfl
    have hw4 : wrap64 ((i : Int) + 4) = ((i + 4 : Nat) : Int) := by rw [wrap_id (by omega) (by omega)]; rfl
    have hw1 : wrap64 ((i : Int) + 1) = ((i + 1 : Nat) : Int) := by rw [wrap_id (by omega) (by omega)]; rfl
    have jf : Ev (fun k => spec_HeadEnd.j1 k l (i : Int) false) (-1) := by
     apply ev_succ; simp only [spec_HeadEnd.j1, Bool.false_eq_true, if_false]; exact Ev.now _
    apply ev_succ
    simp only [spec_HeadEnd.l0, hw3]
    refine ev_ite (fun q => ?_) (fun q => ?_)
    ·by_cases q1 : ((i + 3 : Nat) : Int) < 400
     ·rw [decide_eq_true q1]
      have hL : i < (l.take 400).length := by rw [List.length_take]; omega
      have ht : ((l.take 400).drop i) = (l.take 400)[i] :: (l.take 400).drop (i + 1) := List.drop_eq_getElem_cons hL
      have h4 : ((l.take 400).drop i).take 4 = (l.take (i + 4)).drop i := by
       rw [List.take_drop, List.take_take, show min (i + 4) 400 = i + 4 by omega]
      apply ev_succ
      simp only [spec_HeadEnd.j1, if_true, hw4, hw1, if_pos (show (0 : Int) ≤ (i : Int) by omega), if_pos (show (i : Int) ≤ ((i + 4 : Nat) : Int) by omega), if_pos (show ((i + 4 : Nat) : Int) ≤ l.length by omega), Int.toNat_natCast]
      have hc : ((strOfNums ((l.take (i + 4)).drop i)).toList = ([13, 10, 13, 10] : List UInt8)) ↔ (l.take (i + 4)).drop i = [13, 10, 13, 10] := by
       rw [Lib.toList_data, strOfNums_data]
       have hb := bytesOf_strOfNums ((l.take (i + 4)).drop i) (fun x hx => hr x (List.mem_of_mem_take (List.mem_of_mem_drop hx)))
       unfold bytesOf at hb
       rw [strOfNums_data] at hb
       constructor
       ·intro h; rw [h] at hb; rw [← hb]; rfl
       ·intro h; rw [h]; rfl
      rw [ht, Zk, ← ht, h4]
      refine ev_ite (fun q2 => ?_) (fun q2 => ?_)
      ·rw [if_pos (hc.mp q2)]; exact Ev.now _
      ·rw [if_neg (fun h => q2 (hc.mpr h))]; exact ih (i + 1) (by omega)
     ·rw [decide_eq_false q1, Zav _ _ (by rw [List.length_drop, List.length_take]; omega)]; exact jf
    ·rw [Zav _ _ (by rw [List.length_drop, List.length_take]; omega)]; exact jf
   ·omega
 exact key 400 0 rfl
def Zx : List (List Int) → List Int
 | [] => []
 | [a] => a
 | a :: b :: r => a ++ 13 :: 10 :: Zx (b :: r)
theorem ZbI : ∀ (a cur r : List Int), (∀ x ∈ a, x ≠ 13) → Zy cur (a ++ r) = Zy (cur ++ a) r
 | [], cur, r, _ => by simp
 | x :: a, cur, r, h => by
  have hx : x ≠ 13 := h x (by simp)
  have ih := ZbI a (cur ++ [x]) r (fun y hy => h y (by simp [hy]))
  have e : cur ++ [x] ++ a = cur ++ x :: a := by simp
  rw [e] at ih
  rw [← ih, List.cons_append]
  cases hr : a ++ r with
  | nil => simp [Zy]
  | cons d t => rw [Zy, if_neg (fun q => hx q.1)]
theorem Zew (cur r : List Int) : Zy cur (13 :: 10 :: r) = cur :: Zy [] r := by rw [Zy, if_pos ⟨rfl, rfl⟩]
theorem Zcx : ∀ (ls : List (List Int)), ls ≠ [] → (∀ a ∈ ls, ∀ x ∈ a, x ≠ 13) → Zy [] (Zx ls) = ls
 | [], h, _ => absurd rfl h
 | [a], _, h => by
  have h1 := ZbI a [] [] (h a (by simp))
  rw [List.append_nil, List.nil_append] at h1
  rw [Zx, h1, Zy]
 | a :: b :: r, _, h => by
  rw [Zx, ZbI a [] _ (h a (by simp)), Zew, Zcx (b :: r) (by simp) (fun c hc => h c (by simp [hc]))]
  simp
theorem Zbd : ∀ (a : List Int) (i : Nat) (r : List Int), (∀ x ∈ a, x ≠ 13) → Zk i (a ++ r) = Zk (i + a.length) r
 | [], i, r, _ => by simp
 | x :: a, i, r, h => by
  have hx : x ≠ 13 := h x (by simp)
  rw [List.cons_append, Zk, if_neg (fun q => by simp at q; exact hx q.1), Zbd a (i + 1) r (fun y hy => h y (by simp [hy])), List.length_cons]
  congr 1; omega
theorem Zex (i : Nat) (r : List Int) (h : r.head? ≠ some 13) : Zk i (13 :: 10 :: r) = Zk (i + 2) r := by
 rw [Zk, if_neg (fun q => by
  cases r with
  | nil => simp at q
  | cons y t => simp at q; simp at h; exact h q.1), Zk, if_neg (by simp)]
theorem ZdT {b : List Int} {r : List (List Int)} (hb : b ≠ []) (h : ∀ x ∈ b, x ≠ 13) (t : List Int) : (Zx (b :: r) ++ t).head? ≠ some 13 := by
 cases b with
 | nil => exact absurd rfl hb
 | cons y u =>
  have hy := h y (by simp)
  cases r with
  | nil => simp [Zx]; exact hy
  | cons c s => simp [Zx]; exact hy
theorem Zcy : ∀ (ls : List (List Int)) (i : Nat) (t : List Int), ls ≠ [] → (∀ a ∈ ls, a ≠ [] ∧ ∀ x ∈ a, x ≠ 13) → Zk i (Zx ls ++ 13 :: 10 :: 13 :: 10 :: t) = ((i + (Zx ls).length + 4 : Nat) : Int)
 | [], _, _, h, _ => absurd rfl h
 | [a], i, t, _, h => by
  rw [Zx, Zbd a i _ (h a (by simp)).2, Zk, if_pos (by simp)]
  rfl
 | a :: b :: r, i, t, _, h => by
  have ih := Zcy (b :: r) (i + a.length + 2) t (by simp) (fun c hc => h c (by simp [hc]))
  have hb := h b (by simp)
  rw [Zx, List.append_assoc, List.cons_append, List.cons_append, Zbd a i _ (h a (by simp)).2, Zex _ _ (ZdT hb.1 hb.2 _), ih]
  simp only [List.length_append, List.length_cons]
  congr 1; omega
def Zf (u : Nat) : List Int := (Lib.decDigits u).map fun b => (b.toNat : Int)
theorem ZD (u : Nat) (h : 9 < u) : Zf u = Zf (u / 10) ++ [48 + ((u % 10 : Nat) : Int)] := by
 unfold Zf
 rw [Lib.decDigits, dif_neg (by omega), List.map_append]
 congr 1
 simp only [List.map_cons, List.map_nil, List.cons.injEq, and_true]
 rw [show (UInt8.ofNat (48 + u % 10)).toNat = 48 + u % 10 from by simp; omega]
 omega
theorem Zu (u : Nat) (h : u ≤ 9) : Zf u = [48 + (u : Int)] := by
 unfold Zf
 rw [Lib.decDigits, dif_pos (by omega)]
 simp only [List.map_cons, List.map_nil, List.cons.injEq, and_true]
 rw [show (UInt8.ofNat (48 + u)).toNat = 48 + u from by simp; omega]
 omega
theorem ZK (u : Nat) : ∀ x ∈ Zf u, 0 ≤ x ∧ x < 256 := by
 intro x hx
 obtain ⟨b, _, rfl⟩ := List.mem_map.1 hx
 have := b.toNat_lt
 omega
theorem Ze3 (u : Nat) : (⟨(Lib.decDigits u).toArray⟩ : BA) = strOfNums (Zf u) := by
 apply bytesOf_inj
 rw [bytesOf_strOfNums _ (ZK u), bytesOf_mk]; rfl
theorem ZaW : ∀ (k u : Nat), u < 10 ^ (k + 1) → (Zf u).length ≤ k + 1
 | 0, u, h => by rw [Zu u (by simpa using Nat.le_of_lt_succ h)]; simp
 | k + 1, u, h => by
  rcases Nat.lt_or_ge 9 u with h9 | h9
  ·rw [ZD u h9, List.length_append]
   have := ZaW k (u / 10) (by rw [Nat.pow_succ] at h; omega)
   simp; omega
  ·rw [Zu u h9]; simp
theorem Zb2 (u : Nat) (hu : u ≤ 9223372036854775807) : wrap64 (48 + Int.tmod (u : Int) 10) % 256 = 48 + ((u % 10 : Nat) : Int) := by
 have e : Int.tmod (u : Int) 10 = ((u % 10 : Nat) : Int) := by rw [Int.tmod_eq_emod_of_nonneg (by omega)]; omega
 rw [e, wrap_id (by omega) (by omega)]
 omega
theorem Zey (u : Nat) (hu : u ≤ 9223372036854775807) : wrap64 (Int.tdiv (u : Int) 10) = ((u / 10 : Nat) : Int) := by
 rw [Int.tdiv_eq_ediv_of_nonneg (by omega), wrap_id (by omega) (by omega)]
 omega
def ZL : Int → List Int → Option Int
 | a, [] => some a
 | a, c :: r => if 48 ≤ c ∧ c ≤ 57 then ZL (a * 10 + (c - 48)) r else none
theorem Zcz : ∀ (l : List UInt8) (acc : Nat), ZL (acc : Int) (l.map fun b => (b.toNat : Int)) = (Lib.decFrom acc l).map fun m => (m : Int)
 | [], _ => rfl
 | c :: r, acc => by
  simp only [List.map_cons, ZL, Lib.decFrom, Lib.digitVal]
  by_cases h : 48 ≤ c.toNat ∧ c.toNat ≤ 57
  ·rw [if_pos h, if_pos (by omega), ← Zcz r]
   congr 1; omega
  ·rw [if_neg h, if_neg (by omega)]; rfl
theorem Zbe : ∀ (l : List Int) (a c : Int), ZL a (l ++ [c]) = (ZL a l).bind fun m => if 48 ≤ c ∧ c ≤ 57 then some (m * 10 + (c - 48)) else none
 | [], a, c => by simp [ZL]
 | d :: r, a, c => by
  simp only [List.cons_append, ZL]
  split
  ·exact Zbe r _ c
  ·rfl
theorem ZaO : ∀ (l : List Int) (a m : Int), 0 ≤ a → ZL a l = some m → 0 ≤ m ∧ m < (a + 1) * 10 ^ l.length
 | [], a, m, ha, h => by simp only [ZL, Option.some.injEq] at h; subst h; simp; omega
 | c :: r, a, m, ha, h => by
  simp only [ZL] at h
  split at h
  ·have := ZaO r _ m (by omega) h
   refine ⟨this.1, Int.lt_of_lt_of_le this.2 ?_⟩
   rw [List.length_cons, Int.pow_succ, Int.mul_comm (10 ^ r.length) 10, ← Int.mul_assoc]
   exact Int.mul_le_mul_of_nonneg_right (by omega) (Int.le_of_lt (Int.pow_pos (by decide)))
  ·cases h
theorem Zbt (u : Nat) : Zf u ≠ [] := by
 rcases Nat.lt_or_ge 9 u with h9 | h9
 ·rw [ZD u h9]; simp
 ·rw [Zu u h9]; simp
theorem Zbf (u : Nat) : ZL 0 (Zf u) = some (u : Int) := by
 induction u using Nat.strongRecOn with
 | _ u ih =>
  rcases Nat.lt_or_ge 9 u with h9 | h9
  ·rw [ZD u h9, Zbe, ih (u / 10) (by omega), Option.bind_some, if_pos (by omega)]
   congr 1; omega
  ·rw [Zu u h9]
   simp only [ZL]
   rw [if_pos (by omega)]
   congr 1; omega
theorem ZeQ (u : Nat) : ∀ r, Zf u = 48 :: r → u = 0 := by
 induction u using Nat.strongRecOn with
 | _ u ih =>
  intro r h
  rcases Nat.lt_or_ge 9 u with h9 | h9
  ·rw [ZD u h9] at h
   cases hd : Zf (u / 10) with
   | nil => have := Zbt (u / 10); exact absurd hd this
   | cons c t =>
    rw [hd, List.cons_append] at h
    obtain ⟨rfl, _⟩ := List.cons.inj h
    have := ih (u / 10) (by omega) t hd
    omega
  ·rw [Zu u h9] at h
   have := (List.cons.inj h).1
   omega
theorem ZbJ (u : Nat) : ∀ c ∈ Zf u, 48 ≤ c ∧ c ≤ 57 := by
 induction u using Nat.strongRecOn with
 | _ u ih =>
  intro c h
  rcases Nat.lt_or_ge 9 u with h9 | h9
  ·rw [ZD u h9, List.mem_append] at h
   rcases h with h | h
   ·exact ih (u / 10) (by omega) c h
   ·simp at h; omega
  ·rw [Zu u h9] at h
   simp at h; omega
theorem Zc5 : ∀ (n : Nat) (l : List Int) (m : Int), l.length = n + 1 → ZL 0 l = some m → (n = 0 ∨ ∀ r, l ≠ 48 :: r) → Zf m.toNat = l
 | 0, l, m, hl, h, _ => by
  obtain ⟨c, rfl⟩ := List.length_eq_one_iff.1 hl
  simp only [ZL] at h
  split at h
  ·obtain rfl := Option.some.inj h
   rw [Zu _ (by omega)]
   congr 1; omega
  ·cases h
 | n + 1, l, m, hl, h, h0 => by
  replace h0 : ∀ r, l ≠ 48 :: r := by
   rcases h0 with h0 | h0
   ·omega
   ·exact h0
  obtain ⟨l', c, rfl⟩ : ∃ l' c, l = l' ++ [c] := ⟨l.dropLast, l.getLast (by intro e; subst e; simp at hl), (List.dropLast_concat_getLast _).symm⟩
  have hl' : l'.length = n + 1 := by simp at hl; omega
  rw [Zbe] at h
  obtain ⟨m', hm', h⟩ := Option.bind_eq_some_iff.1 h
  split at h
  ·rename_i hc
   obtain rfl := Option.some.inj h
   have hb := ZaO l' 0 m' (by omega) hm'
   have h0' : ∀ r, l' ≠ 48 :: r := fun r e => h0 (r ++ [c]) (by rw [e]; rfl)
   have ih := Zc5 n l' m' hl' hm' (.inr h0')
   have h1 : 0 < m'.toNat := by
    rcases Nat.eq_zero_or_pos m'.toNat with e | e
    ·rw [e, Zu 0 (by omega)] at ih
     exact absurd ih.symm (h0' [])
    ·exact e
   rw [ZD _ (by omega), show (m' * 10 + (c - 48)).toNat / 10 = m'.toNat from by omega, ih]
   congr 2; omega
  ·cases h
theorem Zae (n : Int) (hn : n ≤ 9223372036854775807) : impl_NumText.f n = some (strOfNums (Zf n.toNat)) := by
 have e : mx n 0 = ((n.toNat : Nat) : Int) := by unfold mx; split <;> omega
 unfold impl_NumText.f
 rw [e]
 unfold strconv_Itoa.f
 rw [if_pos (by omega), Option.bind_some]
 unfold Lib.itoa
 rw [if_neg (by omega), Int.toNat_natCast, Ze3]
def Z1 (s : BA) (most : Int) : Int × Bool :=
 match ZL 0 (bytesOf s) with
 | none => (0, false)
 | some n => if 1 ≤ s.size ∧ s.size ≤ 7 ∧ ¬ (1 < s.size ∧ (bytesOf s).head? = some 48) ∧ n ≤ most then (n, true) else (0, false)
theorem ZbK (s : BA) (most : Int) (u : Nat) (hu : bytesOf s = Zf u) (h7 : s.size ≤ 7) (hm : (u : Int) ≤ most) : Z1 s most = ((u : Int), true) := by
 unfold Z1
 rw [hu, Zbf]
 have hne := Zbt u
 have hl : s.size = (Zf u).length := by rw [← hu, bytesOf_length]
 have h1 : 1 ≤ s.size := by
  rcases Nat.eq_zero_or_pos s.size with e | e
  ·rw [e] at hl; exact absurd (List.length_eq_zero_iff.1 hl.symm) hne
  ·exact e
 refine if_pos ⟨h1, h7, ?_, hm⟩
 rintro ⟨h2, h3⟩
 cases hd : Zf u with
 | nil => exact hne hd
 | cons c r =>
  rw [hd] at h3 hl
  simp only [List.head?_cons, Option.some.injEq] at h3
  subst h3
  have := ZeQ u r hd
  subst this
  rw [Zu 0 (by omega)] at hd
  obtain ⟨_, rfl⟩ := List.cons.inj hd
  simp at hl; omega
theorem ZdH (s : BA) (most : Int) (h : ∀ u : Nat, bytesOf s = Zf u → s.size ≤ 7 → ¬ (u : Int) ≤ most) : Z1 s most = (0, false) := by
 unfold Z1
 cases hd : ZL 0 (bytesOf s) with
 | none => rfl
 | some n =>
  refine if_neg ?_
  rintro ⟨h1, h7, h0, hm⟩
  have hb := ZaO _ 0 n (by omega) hd
  have hl := bytesOf_length s
  have := Zc5 (s.size - 1) (bytesOf s) n (by omega) hd (by
   rcases Nat.eq_zero_or_pos (s.size - 1) with e | e
   ·exact .inl e
   ·refine .inr fun r hr => h0 ⟨by omega, by rw [hr]; rfl⟩)
  exact h n.toNat this.symm h7 (by omega)
theorem ZbL (s : BA) (most : Int) (hs : s.size ≤ 281474976710656) : impl_ParseNum.f s most = some (Z1 s most) := by
 unfold impl_ParseNum.f
 rw [if_pos hs]
 have hbs : bytesOf s = s.data.toList.map fun b => (b.toNat : Int) := rfl
 by_cases hy : ∃ u : Nat, bytesOf s = Zf u ∧ s.size ≤ 7 ∧ (u : Int) ≤ most
 ·obtain ⟨u, hu, h7, hm⟩ := hy
  rw [ZbK s most u hu h7 hm]
  have hlen : s.data.toList.length ≤ 18 := by have := data_length s; omega
  have hdec : Lib.decFrom 0 s.data.toList = some u := by
   have h1 := Zcz s.data.toList 0
   rw [← hbs, hu, show ((0 : Nat) : Int) = 0 from rfl, Zbf] at h1
   cases hd : Lib.decFrom 0 s.data.toList with
   | none => rw [hd] at h1; cases h1
   | some m => rw [hd] at h1; have h2 : (u : Int) = (m : Int) := Option.some.inj h1; congr 1; omega
  have hat : Lib.atoiAll s.data.toList = .ok (u : Int) := by
   cases hl : s.data.toList with
   | nil => rw [hl] at hbs; rw [hu] at hbs; exact absurd hbs (Zbt u)
   | cons c r =>
    have hc : 48 ≤ (c.toNat : Int) ∧ (c.toNat : Int) ≤ 57 := ZbJ u _ (by rw [← hu, hbs, hl]; simp)
    rw [Lib.atoiAll_plain c r (by omega) (by omega), ← hl, Lib.signless_short hlen]
    unfold Lib.decNat
    rw [if_neg (by rw [hl]; simp), hdec]
    rfl
  have hn := ZaW 6 u
  have hlt : (u : Int) < 10000000 := by
   have := (ZaO _ 0 _ (by omega) (Zbf u)).2
   rw [← hu, bytesOf_length] at this
   have h3 : (10 : Int) ^ s.size ≤ 10 ^ 7 := by
    have := Nat.pow_le_pow_right (n := 10) (by decide) h7
    exact_mod_cast this
   have e7 : (10 : Int) ^ 7 = 10000000 := by decide
   omega
  rw [hat]
  (try simp only [])
  rw [if_neg (by omega), if_neg (by omega), if_neg (by omega), Zae _ (by omega), Option.bind_some, Int.toNat_natCast]
  rw [if_pos]
  rw [← hu, strOfNums_bytesOf]
 ·rw [ZdH s most (fun u h1 h2 h3 => hy ⟨u, h1, h2, h3⟩)]
  cases hat : Lib.atoiAll s.data.toList with
  | range => rfl
  | ok v =>
   have hb := Lib.atoiAll_bounds hat
   (try simp only [])
   by_cases h1 : v < 0
   ·rw [if_pos h1]
   by_cases h2 : most < v
   ·rw [if_neg h1, if_pos h2]
   by_cases h3 : 7 < s.size
   ·rw [if_neg h1, if_neg h2, if_pos h3]
   rw [if_neg h1, if_neg h2, if_neg h3, Zae _ hb.2, Option.bind_some]
   rw [if_neg]
   intro e
   refine hy ⟨v.toNat, ?_, by omega, by omega⟩
   have : strOfNums (Zf v.toNat) = s := (toList_iff _ _).1 e
   rw [← this, bytesOf_strOfNums _ (ZK _)]
  | _ => rfl
theorem ZdU (s : BA) (most : Int) (h : (Z1 s most).2 = true) : 0 ≤ (Z1 s most).1 ∧ (Z1 s most).1 ≤ most ∧ ∀ c ∈ bytesOf s, 48 ≤ c ∧ c ≤ 57 := by
 unfold Z1 at *
 cases hd : ZL 0 (bytesOf s) with
 | none => rw [hd] at h; cases h
 | some n =>
  rw [hd] at h
  simp only [] at h ⊢
  split at h
  ·rename_i hq
   rw [if_pos hq]
   refine ⟨(ZaO _ 0 n (by omega) hd).1, hq.2.2.2, ?_⟩
   have key : ∀ (l : List Int) (a m : Int), ZL a l = some m → ∀ c ∈ l, 48 ≤ c ∧ c ≤ 57 := by
    intro l
    induction l with
    | nil => intro a m _ c hc; cases hc
    | cons d r ih =>
     intro a m hm c hc
     simp only [ZL] at hm
     split at hm
     ·rename_i hd
      rcases List.mem_cons.1 hc with rfl | hc
      ·exact hd
      ·exact ih _ m hm c hc
     ·cases hm
   exact key _ 0 n hd
  ·cases h
def CLp : BA := ⟨#[99, 111, 110, 116, 101, 110, 116, 45, 108, 101, 110, 103, 116, 104, 58, 32]⟩
theorem ZaX : ∀ (l : List Int) (cur : List Int), (∀ x ∈ l, 0 ≤ x ∧ x < 256) → (∀ x ∈ cur, 0 ≤ x ∧ x < 256) → ∀ a ∈ Zy cur l, (∀ x ∈ a, 0 ≤ x ∧ x < 256) ∧ a.length ≤ cur.length + l.length
 | [], cur, _, hc, a, ha => by
  rw [Zy, List.mem_singleton] at ha
  subst ha; exact ⟨hc, by simp⟩
 | [c], cur, hl, hc, a, ha => by
  rw [Zy, List.mem_singleton] at ha
  subst ha
  refine ⟨fun x hx => ?_, by simp⟩
  rcases List.mem_append.1 hx with h | h
  ·exact hc x h
  ·exact hl x h
 | c :: d :: r, cur, hl, hc, a, ha => by
  rw [Zy] at ha
  split at ha
  ·rcases List.mem_cons.1 ha with h | h
   ·subst h; exact ⟨hc, by omega⟩
   ·have := ZaX r [] (fun x hx => hl x (by simp [hx])) (by simp) a h
    refine ⟨this.1, ?_⟩
    have h2 := this.2
    simp only [List.length_nil, List.length_cons] at h2 ⊢
    omega
  ·have := ZaX (d :: r) (cur ++ [c]) (fun x hx => hl x (List.mem_cons_of_mem _ hx)) (fun x hx => by
    rcases List.mem_append.1 hx with h | h
    ·exact hc x h
    ·rw [List.mem_singleton] at h; subst h; exact hl x (by simp)) a ha
   refine ⟨this.1, ?_⟩
   have h2 := this.2
   simp only [List.length_append, List.length_cons, List.length_nil] at h2 ⊢
   omega
theorem ZbB {l : List Int} (hl : ∀ x ∈ l, 0 ≤ x ∧ x < 256) : ∀ s ∈ Zg l, s.size ≤ l.length := by
 intro s hs
 obtain ⟨a, ha, rfl⟩ := List.mem_map.1 hs
 have := (ZaX l [] hl (by simp) a ha).2
 rw [strOfNums_size]; simpa using this
theorem ZbM : ∀ (l cur : List Int), 1 ≤ (Zy cur l).length ∧ (Zy cur l).length ≤ l.length + 1
 | [], cur => by simp [Zy]
 | [c], cur => by simp [Zy]
 | c :: d :: r, cur => by
  rw [Zy]
  split
  ·have := ZbM r []
   simp only [List.length_cons]; omega
  ·have := ZbM (d :: r) (cur ++ [c])
   simp only [List.length_cons] at this ⊢; omega
theorem Zb3 (l : List Int) : 1 ≤ (Zg l).length ∧ (Zg l).length ≤ l.length + 1 := by
 unfold Zg; rw [List.length_map]; exact ZbM l []
theorem Zc6 : ∀ (t : List Int) (i : Nat), 0 ≤ Zk i t → (i : Int) + 4 ≤ Zk i t ∧ Zk i t ≤ i + t.length
 | [], i, h => by simp [Zk] at h
 | c :: r, i, h => by
  rw [Zk] at h ⊢
  by_cases q : (c :: r).take 4 = [13, 10, 13, 10]
  ·rw [if_pos q]
   have := congrArg List.length q
   simp at this
   simp only [List.length_cons]
   omega
  ·rw [if_neg q] at h ⊢
   have := Zc6 r (i + 1) h
   simp only [List.length_cons]
   omega
theorem Zds (l : List Int) (hl : l.length ≤ 1048576) (hr : ∀ x ∈ l, 0 ≤ x ∧ x < 256) : strings_Split.f (strOfNums l) (⟨#[13, 10]⟩ : BA) = some (Zg l) := by
 unfold strings_Split.f
 rw [if_pos ⟨by rw [strOfNums_size]; omega, by decide⟩, ZcK _ _ (Nat.le_refl _), bytesOf_strOfNums l hr]
theorem ZC (s : BA) (l : List UInt8) : s.toList = l ↔ bytesOf s = l.map fun b => (b.toNat : Int) := by
 rw [Lib.toList_data]
 unfold bytesOf
 constructor
 ·intro h; rw [h]
 ·intro h; exact List.map_inj_right (fun x y hxy => UInt8.toNat_inj.mp (by omega)) |>.mp h
theorem Za4 : ∀ (l : List UInt8) (c : UInt8), 0 ≤ Lib.indexByte l c ↔ c ∈ l
 | [], c => by simp [Lib.indexByte]
 | b :: l, c => by
  have ih := Za4 l c
  have hg := Lib.indexByte_ge l c
  simp only [Lib.indexByte]
  by_cases h : b = c
  ·subst h; simp
  ·have h' : (b == c) = false := by simpa using h
   have h2 : ¬ c = b := fun e => h e.symm
   rw [h']
   simp only [Bool.false_eq_true, if_false, List.mem_cons, h2, false_or, ← ih]
   by_cases q : Lib.indexByte l c = -1
   ·simp [q]
   ·have : (Lib.indexByte l c == -1) = false := by simpa using q
    rw [this]; simp only [Bool.false_eq_true, if_false]; omega
theorem Zef (s : BA) (c : UInt8) : c ∈ s.data.toList ↔ (c.toNat : Int) ∈ bytesOf s := by
 unfold bytesOf
 rw [List.mem_map]
 constructor
 ·intro h; exact ⟨c, h, rfl⟩
 ·rintro ⟨d, hd, he⟩
  have : d = c := UInt8.toNat_inj.mp (by omega)
  rw [← this]; exact hd
def tkC (c : Int) (r : List Int) : List Int := r.takeWhile fun x => decide (x ≠ c)
def drC (c : Int) (r : List Int) : List Int := r.dropWhile fun x => decide (x ≠ c)
theorem ZcU (c : Int) (r : List Int) : tkC c r ++ drC c r = r := List.takeWhile_append_dropWhile
theorem Zbu (c : Int) (r : List Int) : (tkC c r).length + (drC c r).length = r.length := by rw [← List.length_append, ZcU]
theorem Zbg (c : UInt8) : ∀ l : List UInt8, Lib.index l [c] = if (l.dropWhile fun x => decide (x ≠ c)) = [] then -1 else ((l.takeWhile fun x => decide (x ≠ c)).length : Int)
 | [] => rfl
 | b :: l => by
  have ih := Zbg c l
  rw [Lib.index]
  simp only [List.isPrefixOf, Bool.and_true]
  by_cases q : b = c
  ·subst q
   simp
  ·have q1 : ¬ c = b := fun e => q e.symm
   have q2 : (c == b) = false := by simpa using q1
   rw [q2, if_neg (by simp), ih, List.dropWhile_cons, List.takeWhile_cons]
   simp only [ne_eq, q, not_false_iff, decide_true, if_true]
   by_cases q3 : (l.dropWhile fun x => decide (¬ x = c)) = []
   ·simp only [ne_eq, q3, if_true]; rfl
   ·simp only [ne_eq, if_neg q3]
    rw [if_neg (by simp only [beq_iff_eq]; omega)]
    simp
theorem Zc7 (c : UInt8) (l : List UInt8) : Lib.cut l [c] = (l.takeWhile (fun x => decide (x ≠ c)), (l.dropWhile fun x => decide (x ≠ c)).tail, decide ((l.dropWhile fun x => decide (x ≠ c)) ≠ [])) := by
 have ha := List.takeWhile_append_dropWhile (p := fun x => decide (x ≠ c)) (l := l)
 unfold Lib.cut
 rw [Zbg]
 generalize (l.takeWhile fun x => decide (x ≠ c)) = t at ha
 generalize (l.dropWhile fun x => decide (x ≠ c)) = d at ha
 by_cases q : d = []
 ·subst q
  rw [List.append_nil] at ha
  rw [if_pos rfl, if_neg (by decide), ha]
  rfl
 ·rw [if_neg q, if_pos (by omega)]
  subst ha
  simp only [Int.toNat_natCast, List.length_cons, List.length_nil, List.take_left, Nat.zero_add, decide_eq_true q, ne_eq, not_false_iff]
  cases d with
  | nil => exact absurd rfl q
  | cons x u =>
   refine Prod.ext rfl (Prod.ext ?_ rfl)
   show List.drop (t.length + 1) (t ++ x :: u) = u
   rw [show t ++ x :: u = (t ++ [x]) ++ u by simp]
   exact List.drop_left' (by simp)
theorem Zeg (c : UInt8) (l : List UInt8) : (l.takeWhile fun x => decide (x ≠ c)).map (fun b => (b.toNat : Int)) = tkC (c.toNat : Int) (l.map fun b => (b.toNat : Int)) := by
 unfold tkC
 rw [List.takeWhile_map]
 congr 2
 funext x
 simp only [Function.comp, decide_eq_decide]
 constructor
 ·intro h e; exact h (UInt8.toNat_inj.1 (by omega))
 ·intro h e; exact h (by rw [e])
theorem Zc8 (c : UInt8) (l : List UInt8) : (l.dropWhile fun x => decide (x ≠ c)).map (fun b => (b.toNat : Int)) = drC (c.toNat : Int) (l.map fun b => (b.toNat : Int)) := by
 unfold drC
 rw [List.dropWhile_map]
 congr 2
 funext x
 simp only [Function.comp, decide_eq_decide]
 constructor
 ·intro h e; exact h (UInt8.toNat_inj.1 (by omega))
 ·intro h e; exact h (by rw [e])
theorem ZeR (s : BA) (c : UInt8) (h : s.size < 4294967281) : ∃ a b, strings_Cut.f s (⟨#[c]⟩ : BA) = some (a, b, decide (drC (c.toNat : Int) (bytesOf s) ≠ [])) ∧ bytesOf a = tkC (c.toNat : Int) (bytesOf s) ∧ bytesOf b = (drC (c.toNat : Int) (bytesOf s)).tail := by
 have hb : bytesOf s = s.data.toList.map fun b => (b.toNat : Int) := rfl
 refine ⟨⟨(Lib.cut s.data.toList [c]).1.toArray⟩, ⟨(Lib.cut s.data.toList [c]).2.1.toArray⟩, ?_, ?_, ?_⟩
 ·unfold strings_Cut.f
  rw [if_pos h, show ((⟨#[c]⟩ : BA).data.toList) = [c] from rfl, Zc7]
  rw [hb, ← Zc8]
  simp only [ne_eq, List.map_eq_nil_iff]
 ·rw [bytesOf_mk, Zc7, Zeg, hb]
 ·rw [bytesOf_mk, Zc7]
  show (List.dropWhile _ _).tail.map _ = _
  rw [List.map_tail, Zc8]
  rfl
def ZQ (c : Int) : List Int → List Int → List (List Int)
 | cur, [] => [cur]
 | cur, x :: r => if x = c then cur :: ZQ c [] r else ZQ c (cur ++ [x]) r
def Zm (c : Int) (l : List Int) : List BA := (ZQ c [] l).map strOfNums
theorem Zc9 (c : Int) : ∀ (l cur : List Int), ZQ c cur l = if drC c l = [] then [cur ++ l] else (cur ++ tkC c l) :: ZQ c [] (drC c l).tail
 | [], cur => by simp [ZQ, drC]
 | x :: r, cur => by
  by_cases q : x = c
  ·rw [ZQ, if_pos q]
   have e1 : drC c (x :: r) = x :: r := by simp [drC, q]
   have e2 : tkC c (x :: r) = [] := by simp [tkC, q]
   rw [e1, e2, if_neg (by simp)]; simp
  ·have e1 : drC c (x :: r) = drC c r := by simp [drC, q]
   have e2 : tkC c (x :: r) = x :: tkC c r := by simp [tkC, q]
   rw [ZQ, if_neg q, Zc9 c r (cur ++ [x]), e1, e2]
   by_cases q1 : drC c r = []
   ·rw [if_pos q1, if_pos q1]; simp
   ·rw [if_neg q1, if_neg q1]; simp
theorem Zeh (c : UInt8) (s : BA) : Lib.indexB s ⟨#[c]⟩ = if drC (c.toNat : Int) (bytesOf s) = [] then -1 else ((tkC (c.toNat : Int) (bytesOf s)).length : Int) := by
 show Lib.index s.data.toList [c] = _
 rw [Zbg]
 have hb : bytesOf s = s.data.toList.map fun b => (b.toNat : Int) := rfl
 rw [hb, ← Zc8, ← Zeg]
 simp only [List.map_eq_nil_iff, List.length_map]
theorem ZcL (c : UInt8) : ∀ (n : Nat) (s : BA), s.size ≤ n → Lib.splitB ⟨#[c]⟩ 0 (Lib.countB s ⟨#[c]⟩) s = Zm (c.toNat : Int) (bytesOf s) := by
 intro n
 induction n with
 | zero =>
  intro s h
  have h0 : bytesOf s = [] := List.eq_nil_of_length_eq_zero (by rw [bytesOf_length]; omega)
  have hi : Lib.indexB s ⟨#[c]⟩ = -1 := by rw [Zeh, h0]; rfl
  rw [Lib.splitB_miss _ _ _ _ hi]
  unfold Zm
  rw [h0]
  have : s = strOfNums [] := by rw [← h0, strOfNums_bytesOf]
  rw [this]; rfl
 | succ n ih =>
  intro s h
  have hi := Zeh c s
  unfold Zm
  rw [Zc9]
  by_cases q : drC (c.toNat : Int) (bytesOf s) = []
  ·rw [if_pos q] at hi
   rw [Lib.splitB_miss _ _ _ _ hi, if_pos q]
   simp [strOfNums_bytesOf]
  ·rw [if_neg q] at hi
   have h1 : 1 ≤ (⟨#[c]⟩ : BA).size := Nat.le_refl 1
   rw [if_neg q, Lib.countB_hit s ⟨#[c]⟩ _ h1 hi, Nat.add_comm, Lib.splitB_hit _ _ _ _ _ hi]
   have hl := Zbu (c.toNat : Int) (bytesOf s)
   rw [bytesOf_length] at hl
   have hd : 0 < (drC (c.toNat : Int) (bytesOf s)).length := List.length_pos_iff.2 q
   have e1 : bytesOf (s.extract ((tkC (c.toNat : Int) (bytesOf s)).length + (⟨#[c]⟩ : BA).size) s.size) = (drC (c.toNat : Int) (bytesOf s)).tail := by
    rw [bytesOf_extract, List.take_of_length_le (by rw [bytesOf_length]; exact Nat.le_refl _)]
    have h2 := @List.drop_left _ (tkC (c.toNat : Int) (bytesOf s)) (drC (c.toNat : Int) (bytesOf s))
    rw [ZcU] at h2
    show (bytesOf s).drop ((tkC (c.toNat : Int) (bytesOf s)).length + 1) = _
    rw [← List.drop_drop, h2, List.drop_one]
   have e2 : s.extract 0 ((tkC (c.toNat : Int) (bytesOf s)).length + 0) = strOfNums (tkC (c.toNat : Int) (bytesOf s)) := by
    apply bytesOf_inj
    have h2 := @List.take_left _ (tkC (c.toNat : Int) (bytesOf s)) (drC (c.toNat : Int) (bytesOf s))
    rw [ZcU] at h2
    rw [bytesOf_extract, Nat.add_zero, h2, List.drop_zero, bytesOf_strOfNums]
    intro x hx
    exact bytesOf_range s x (by rw [← ZcU (c.toNat : Int) (bytesOf s)]; exact List.mem_append_left _ hx)
   have hsz : (s.extract ((tkC (c.toNat : Int) (bytesOf s)).length + (⟨#[c]⟩ : BA).size) s.size).size ≤ n := by
    rw [size_len, e1, List.length_tail]; omega
   rw [ih _ hsz, e1, e2]
   simp [Zm]
theorem Zb4 (c : Int) : impl_isLarge.f c = some (ZA c) := by
 unfold impl_isLarge.f ZA; split <;> simp [*] <;> omega
def ZaM (c : Int) : Int := if ZA c = true then c + 32 else c
def Z2 (l : List Int) : List Int := l.map ZaM
theorem ZdV {c : Int} (h : 0 ≤ c ∧ c < 256) : 0 ≤ ZaM c ∧ ZaM c < 256 := by
 unfold ZaM ZA
 split
 ·rename_i q
  simp at q
  omega
 ·exact h
theorem Zez {c : Int} (h : 0 ≤ c ∧ c < 256) (q : ZA c = true) : (c + 32) % 256 = ZaM c := by
 have := ZdV h
 unfold ZaM at this ⊢
 rw [if_pos q] at this ⊢
 omega
def ZG (s : BA) : BA := strOfNums (Z2 (bytesOf s))
theorem ZcM (l : List Int) (hl : l.length ≤ 1048576) (hr : ∀ x ∈ l, 0 ≤ x ∧ x < 256) : ∀ n i, l.length - i = n → i ≤ l.length → Ev (fun k => impl_Lower.l0 k ((Z2 l).take i ++ l.drop i) (l.length : Int) (i : Int)) (strOfNums (Z2 l)) := by
 intro n
 induction n with
 | zero =>
  intro i hn hi
  have h0 : i = l.length := by omega
  subst h0
  apply ev_succ; simp only [impl_Lower.l0, if_neg (show ¬ ((l.length : Nat) : Int) < (l.length : Int) by omega)]
  simpa [Z2, List.take_of_length_le] using Ev.now _
 | succ n ih =>
  intro i hn hi
  have hlt : i < l.length := by omega
  have hll : (Z2 l).length = l.length := by simp [Z2]
  have htl : ((Z2 l).take i).length = i := by rw [List.length_take]; omega
  have hlen : ((Z2 l).take i ++ l.drop i).length = l.length := by rw [List.length_append, htl, List.length_drop]; omega
  have hw1 : wrap64 ((i : Int) + 1) = ((i + 1 : Nat) : Int) := by rw [wrap_id (by omega) (by omega)]; rfl
  have hrd : rd ((Z2 l).take i ++ l.drop i) (i : Int) = l[i] := by
   rw [rd, Int.toNat_natCast, List.getD_eq_getElem?_getD, List.getElem?_append_right (by omega), htl, List.getElem?_drop]
   simp [hlt]
  have hc := hr l[i] (List.getElem_mem _)
  have step : (Z2 l).take (i + 1) ++ l.drop (i + 1) = (Z2 l).take i ++ ZaM l[i] :: l.drop (i + 1) := by
   rw [List.take_succ_eq_append_getElem (by omega)]
   simp [Z2]
  have hd : l.drop i = l[i] :: l.drop (i + 1) := List.drop_eq_getElem_cons hlt
  have ih' := ih (i + 1) (by omega) (by omega)
  rw [step] at ih'
  apply ev_succ
  simp only [impl_Lower.l0, if_pos (show (i : Int) < (l.length : Int) by omega), if_pos (show (0 : Int) ≤ i by omega), hlen, hrd, Zb4, Option.bind_some, hw1]
  refine ev_ite (fun q => ?_) (fun q => ?_)
  ·rw [Int.toNat_natCast, Zez hc q, List.set_append_right _ _ (by omega), htl, Nat.sub_self, hd, List.set_cons_zero]
   exact ih'
  ·rw [show ZaM l[i] = l[i] by unfold ZaM; rw [if_neg q], ← hd] at ih'
   exact ih'
theorem Za5 (s : BA) (hs : s.size ≤ 1048576) : Ev (fun k => impl_Lower.f k s) (ZG s) := by
 unfold impl_Lower.f
 simp only [if_pos (show s.size < 140737488355328 by omega), Option.bind_some]
 have := ZcM (bytesOf s) (by rw [bytesOf_length]; exact hs) (bytesOf_range s) _ 0 rfl (Nat.zero_le _)
 simpa [ZG] using this
def Zn (c : Int) : Bool := decide (c = 32) || decide (c = 9)
def Zo (l : List Int) : List Int := l.dropWhile Zn
def Zj (l : List Int) : List Int := (l.reverse.dropWhile Zn).reverse
theorem Zb5 (c : Int) (r : List Int) : Zj (c :: r) = if Zj r = [] then (if Zn c = true then [] else [c]) else c :: Zj r := by
 unfold Zj
 rw [List.reverse_cons, List.dropWhile_append]
 by_cases h : r.reverse.dropWhile Zn = []
 ·rw [h]
  by_cases q : Zn c = true
  ·simp [q]
  ·simp [q]
 ·have : (r.reverse.dropWhile Zn).isEmpty = false := by simpa using h
  rw [this]
  simp [h]
theorem ZcA : ∀ l : List Int, Zo (Zj l) = Zj (Zo l)
 | [] => rfl
 | c :: r => by
  have ih := ZcA r
  rw [Zb5]
  by_cases q : Zn c = true
  ·have e : Zo (c :: r) = Zo r := by unfold Zo; rw [List.dropWhile_cons_of_pos q]
   rw [e, ← ih]
   by_cases h : Zj r = []
   ·rw [if_pos h, if_pos q, h]
   ·rw [if_neg h]
    unfold Zo; rw [List.dropWhile_cons_of_pos q]
  ·have e : ∀ x : List Int, Zo (c :: x) = c :: x := fun x => by unfold Zo; rw [List.dropWhile_cons_of_neg q]
   rw [e, Zb5]
   by_cases h : Zj r = []
   ·rw [if_pos h, if_neg q]; exact e []
   ·rw [if_neg h]; exact e _
def ZS (s : BA) : BA := strOfNums (Zo (Zj (bytesOf s)))
theorem ZeA {l : List Int} {x : Int} (h : x ∈ Zo (Zj l)) : x ∈ l := by
 unfold Zo Zj at h
 have h1 := (List.dropWhile_sublist _).subset h
 have h2 := (List.dropWhile_sublist _).subset (List.mem_reverse.1 h1)
 exact List.mem_reverse.1 h2
theorem Zb6 (s : BA) : bytesOf (ZS s) = Zo (Zj (bytesOf s)) := bytesOf_strOfNums _ (fun x hx => bytesOf_range s x (ZeA hx))
theorem ZcB (s : BA) : (ZS s).size ≤ s.size := by
 rw [size_len, Zb6, size_len]
 unfold Zo Zj
 have h1 := (List.dropWhile_sublist Zn (l := ((bytesOf s).reverse.dropWhile Zn).reverse)).length_le
 have h2 := (List.dropWhile_sublist Zn (l := (bytesOf s).reverse)).length_le
 simp only [List.length_reverse] at h1 h2
 omega
theorem Zaj {α β : Type} (f : α → β) (p : β → Bool) : ∀ l : List α, (l.map f).dropWhile p = (l.dropWhile (fun x => p (f x))).map f
 | [] => rfl
 | x :: r => by
  rw [List.map_cons]
  by_cases q : p (f x) = true
  ·rw [List.dropWhile_cons_of_pos q, List.dropWhile_cons_of_pos (by exact q), Zaj f p r]
  ·rw [List.dropWhile_cons_of_neg q, List.dropWhile_cons_of_neg (by exact q), List.map_cons]
theorem ZeB (b : UInt8) : ([32, 9] : List UInt8).contains b = Zn (b.toNat : Int) := by
 have H : ∀ n : Fin 256, ([32, 9] : List UInt8).contains (UInt8.ofNat n.val) = Zn (n.val : Int) := by decide +kernel
 have := H ⟨b.toNat, b.toNat_lt⟩
 simpa using this
theorem Zbh (s : BA) (hs : s.size ≤ 140737488351232) : impl_Trim.f s = some (ZS s) := by
 unfold impl_Trim.f strings_Trim.f
 rw [if_pos ⟨by omega, by decide, by decide⟩]
 simp only [Option.bind_some]
 congr 1
 apply bytesOf_inj
 rw [Zb6, bytesOf_mk]
 unfold Lib.trimS Lib.trimLeftS Lib.trimRightS Zo Zj bytesOf
 have e : (fun x : UInt8 => ([32, 9] : List UInt8).contains x) = fun x => Zn (x.toNat : Int) := funext ZeB
 show List.map _ (List.dropWhile (fun x => ([32, 9] : List UInt8).contains x) (List.dropWhile (fun x => ([32, 9] : List UInt8).contains x) s.data.toList.reverse).reverse) = _
 rw [e, ← List.map_reverse, Zaj, ← List.map_reverse, Zaj]
theorem Zb7 (c : Int) : spec_l1Blank.f c = some (Zn c) := by
 unfold spec_l1Blank.f Zn
 by_cases h : c = 32
 ·rw [if_pos h]; simp [h]
 ·rw [if_neg h]; simp [h]; rfl
theorem Zdt {x : BA} {c : Int} {r : List Int} (h : bytesOf x = c :: r) : bt x 0 = c ∧ bytesOf (x.extract 1 x.size) = r ∧ x.size = r.length + 1 := by
 have hd : (bytesOf x).drop 0 = c :: r := by simpa using h
 obtain ⟨h1, h2, h3⟩ := bt_drop hd
 refine ⟨by simpa using h1, ?_, by rw [size_len, h]; rfl⟩
 rw [bytesOf_extract, List.take_of_length_le (by rw [← size_len]; exact Nat.le_refl _)]
 exact h3
theorem Zda {x : BA} {c : Int} {r : List Int} (h : bytesOf x = r ++ [c]) : bt x (r.length : Int) = c ∧ bytesOf (x.extract 0 r.length) = r ∧ x.size = r.length + 1 := by
 have hd : (bytesOf x).drop r.length = [c] := by rw [h]; simp
 obtain ⟨h1, h2, h3⟩ := bt_drop hd
 refine ⟨h1, ?_, by rw [size_len, h]; simp⟩
 rw [bytesOf_extract, h]
 simp
theorem ZaC : ∀ (l : List Int) (x : BA), bytesOf x = l.reverse → x.size ≤ 1048576 → Ev (fun k => spec_Trim.l1 k x) (strOfNums (Zj (bytesOf x)))
 | [], x, h, hs => by
  have h0 : x.size = 0 := by rw [size_len, h]; rfl
  apply ev_succ; simp only [spec_Trim.l1, if_neg (show ¬ (x.size : Int) > 0 by omega)]
  rw [h]
  have : x = strOfNums (Zj ([] : List Int).reverse) := by rw [← strOfNums_bytesOf x, h]; rfl
  rw [← this]; exact Ev.now _
 | c :: r, x, h, hs => by
  rw [List.reverse_cons] at h
  obtain ⟨h1, h2, h3⟩ := Zda h
  rw [List.length_reverse] at h1 h2 h3
  apply ev_succ
  simp only [spec_Trim.l1, if_pos (show (x.size : Int) > 0 by omega), show wrap64 ((x.size : Int) - 1) = (r.length : Int) from by rw [wrap_id (by omega) (by omega)]; omega, if_pos (show (0 : Int) ≤ (r.length : Int) by omega), if_pos (show (r.length : Int) < (x.size : Int) by omega), if_pos (show (r.length : Int) ≤ (x.size : Int) by omega), h1, Zb7, Option.bind_some, Int.toNat_natCast]
  refine ev_iteB (fun q => ?_) (fun q => ?_)
  ·have ih := ZaC r (x.extract 0 r.length) h2 (by rw [size_len, h2, List.length_reverse]; omega)
   have e : Zj (bytesOf x) = Zj (bytesOf (x.extract 0 r.length)) := by
    rw [h, h2]
    unfold Zj
    rw [List.reverse_append, List.reverse_reverse]
    show (List.dropWhile Zn (c :: r)).reverse = _
    rw [List.dropWhile_cons_of_pos q]
   rw [e]; exact ih
  ·have e : Zj (bytesOf x) = bytesOf x := by
    rw [h]
    unfold Zj
    rw [List.reverse_append, List.reverse_reverse]
    show (List.dropWhile Zn (c :: r)).reverse = _
    rw [List.dropWhile_cons_of_neg (by rw [q]; simp), List.reverse_cons]
   rw [e, strOfNums_bytesOf]; exact Ev.now _
theorem Zbi : ∀ (l : List Int) (x : BA), bytesOf x = l → x.size ≤ 1048576 → Ev (fun k => spec_Trim.l0 k x) (strOfNums (Zj (Zo (bytesOf x))))
 | [], x, h, hs => by
  have h0 : x.size = 0 := by rw [size_len, h]; rfl
  apply ev_succ; simp only [spec_Trim.l0, if_neg (show ¬ (x.size : Int) > 0 by omega)]
  apply ev_succ; simp only [spec_Trim.j1]
  have := ZaC [] x h hs
  rwa [show Zo (bytesOf x) = bytesOf x by rw [h]; rfl]
 | c :: r, x, h, hs => by
  obtain ⟨h1, h2, h3⟩ := Zdt h
  apply ev_succ
  simp only [spec_Trim.l0, if_pos (show (x.size : Int) > 0 by omega), if_pos (show (0 : Int) < (x.size : Int) by omega), if_pos (show (1 : Int) ≤ (x.size : Int) by omega), h1, Zb7, Option.bind_some]
  refine ev_iteB (fun q => ?_) (fun q => ?_)
  ·have ih := Zbi r (x.extract 1 x.size) h2 (by rw [size_len, h2]; omega)
   have e : Zo (bytesOf x) = Zo (bytesOf (x.extract 1 x.size)) := by
    rw [h, h2]
    unfold Zo
    rw [List.dropWhile_cons_of_pos q]
   rw [e]; exact ih
  ·have e : Zo (bytesOf x) = bytesOf x := by
    rw [h]
    unfold Zo
    rw [List.dropWhile_cons_of_neg (by rw [q]; simp)]
   rw [e]
   apply ev_succ; simp only [spec_Trim.j1]
   exact ZaC (bytesOf x).reverse x (by rw [List.reverse_reverse]) hs
theorem Zdb (s : BA) (hs : s.size ≤ 1048576) : Ev (fun k => spec_Trim.f k s) (ZS s) := by
 unfold spec_Trim.f ZS
 rw [ZcA]
 exact Zbi _ s rfl hs
def Z8 (s : BA) (a b : Int) : Bool := decide (a ≤ (s.size : Int)) && decide ((s.size : Int) ≤ b)
theorem ZdW (c : Int) : impl_isSmall.f c = some (Zba c) := by
 unfold impl_isSmall.f Zba; split <;> simp [*] <;> omega
theorem ZdX (c : Int) (h : wrap64 c = c) : spec_l1Small.f c = some (Zba c) := by
 unfold spec_l1Small.f; rw [h, Zaa]; rfl
def snC (first : Bool) (c : Int) : Bool := Zba c || (!first && (Zad c || decide (c = 45)))
def snB : Nat → List Int → Bool
 | _, [] => true
 | i, c :: r => snC (i == 0) c && snB (i + 1) r
def Zab (s : BA) : Bool := snB 0 (bytesOf s) && Z8 s 1 20
theorem Zat (s : BA) (hs : s.size ≤ 140737488351232) : Ev (fun k => impl_SmallName.f k s) (Zab s) := by
 refine str_loop_st s (fun i (_ : Unit) k => impl_SmallName.l0 k s (i : Int)) (fun i _ r => snB i r && Z8 s 1 20) (fun _ _ _ => True) ?_ ?_ hs 0 () trivial
 ·intro i _ _ hi
  apply ev_succ; simp only [impl_SmallName.l0, if_neg (show ¬ (i : Int) < s.size by omega), ZdQ, Option.bind_some]; exact Ev.now _
 ·intro i _ c r _ h hb hi hw hw1 ih
  replace ih := ih () trivial
  apply ev_succ
  simp only [impl_SmallName.l0, if_pos (show (i : Int) < s.size by omega), if_pos (show (0 : Int) ≤ i by omega), hb, ZdW, ZbW, Option.bind_some, hw1]
  refine ev_iteB (fun q => ?_) (fun q => ev_ite (fun q0 => ?_) (fun q0 => ?_))
  ·simpa [snB, snC, q] using ih
  ·have : i = 0 := by omega
   subst this; simpa [snB, snC, q] using Ev.now false
  ·have hi0 : (i == 0) = false := by simp; omega
   refine ev_iteB (fun q1 => ?_) (fun q1 => ev_ite (fun q2 => ?_) (fun q2 => ?_))
   ·simpa [snB, snC, q, hi0, q1] using ih
   ·subst q2; simpa [snB, snC, q, hi0, q1] using ih
   ·simpa [snB, snC, q, hi0, q1, q2] using Ev.now false
theorem Zbw (s : BA) (hs : s.size ≤ 140737488351232) : Ev (fun k => spec_SmallName.f k s) (Zab s) := by
 refine str_loop_st s (fun i (_ : Unit) k => spec_SmallName.l0 k s (i : Int)) (fun i _ r => snB i r && Z8 s 1 20) (fun _ _ _ => True) ?_ ?_ hs 0 () trivial
 ·intro i _ _ hi
  apply ev_succ; simp only [spec_SmallName.l0, if_neg (show ¬ (i : Int) < s.size by omega), Zaa, Option.bind_some]; exact Ev.now _
 ·intro i _ c r _ h hb hi hw hw1 ih
  replace ih := ih () trivial
  apply ev_succ
  simp only [spec_SmallName.l0, if_pos (show (i : Int) < s.size by omega), if_pos (show (0 : Int) ≤ i by omega), hb, ZdX c hw, ZdN c hw, Option.bind_some, hw1]
  refine ev_iteB (fun q => ?_) (fun q => ev_ite (fun q0 => ?_) (fun q0 => ?_))
  ·simpa [snB, snC, q] using ih
  ·have : i = 0 := by omega
   subst this; simpa [snB, snC, q] using Ev.now false
  ·have hi0 : (i == 0) = false := by simp; omega
   refine ev_iteB (fun q1 => ?_) (fun q1 => ev_ite (fun q2 => ?_) (fun q2 => ?_))
   ·simpa [snB, snC, q, hi0, q1] using ih
   ·subst q2; simpa [snB, snC, q, hi0, q1] using ih
   ·simpa [snB, snC, q, hi0, q1, q2] using Ev.now false
theorem ZeS (x y : S113) : x = y ↔ x.f0 = y.f0 ∧ x.f1 = y.f1 := by cases x; cases y; simp
theorem ZdY (c : Int) : impl_isPlain.f c = some (ZO c) := by
 unfold impl_isPlain.f ZO; split <;> simp [*] <;> omega
def ZP (l : List Int) : Bool := l.all ZO
theorem Za6 (s : BA) (hs : s.size ≤ 140737488351232) : Ev (fun k => impl_Plain.f k s) (ZP (bytesOf s)) := by
 refine str_loop s (fun i k => impl_Plain.l0 k s (i : Int)) ZP ?_ ?_ hs 0
 ·intro i hi
  apply ev_succ; simp only [impl_Plain.l0, if_neg (show ¬ (i : Int) < s.size by omega)]; exact Ev.now _
 ·intro i c r h hb hi hw hw1 ih
  apply ev_succ
  simp only [impl_Plain.l0, if_pos (show (i : Int) < s.size by omega), if_pos (show (0 : Int) ≤ i by omega), hb, ZdY, Option.bind_some, hw1]
  refine ev_ite (fun h => ?_) (fun h => ?_)
  ·simpa [ZP, h] using ih
  ·simpa [ZP, h] using Ev.now _
theorem ZcN (s : BA) (hs : s.size ≤ 140737488351232) : Ev (fun k => spec_Plain.f k s) (ZP (bytesOf s)) := by
 refine str_loop s (fun i k => spec_Plain.l0 k s (i : Int)) ZP ?_ ?_ hs 0
 ·intro i hi
  apply ev_succ; simp only [spec_Plain.l0, if_neg (show ¬ (i : Int) < s.size by omega)]; exact Ev.now _
 ·intro i c r h hb hi hw hw1 ih
  apply ev_succ
  simp only [spec_Plain.l0, if_pos (show (i : Int) < s.size by omega), if_pos (show (0 : Int) ≤ i by omega), hb, hw, Zaa, Option.bind_some, hw1]
  refine ev_ite (fun h => ?_) (fun h => ?_)
  ·have : ZO c = true := h
   simpa [ZP, this] using ih
  ·have : ZO c = false := by simpa [ZO] using h
   simpa [ZP, this] using Ev.now _
def ZY (s : BA) : Bool := decide ((s.size : Int) ≤ 60) && (ZP (bytesOf s) && ((ZS s).toList == s.toList))
def ZT (s : BA) : Bool := decide (¬ s.toList = ([99, 111, 110, 116, 101, 110, 116, 45, 108, 101, 110, 103, 116, 104] : List UInt8)) && decide (¬ s.toList = ([116, 114, 97, 110, 115, 102, 101, 114, 45, 101, 110, 99, 111, 100, 105, 110, 103] : List UInt8))
def Zz (h : S113) : Bool := Zab h.f0 && (ZY h.f1 && ZT h.f0)
def Zd (l : List S113) : Bool := l.all Zz
def Zbv (l : List S113) : Bool := Zd l && decide ((l.length : Int) ≤ 8)
theorem Za7 (s : BA) (hs : s.size ≤ 1048576) : Ev (fun k => impl_valOk.f k s) (ZY s) := by
 unfold impl_valOk.f ZY
 refine ev_ite (fun q => ?_) (fun q => ?_)
 ·rw [decide_eq_true q, Bool.true_and]
  refine Ev.bind (Za6 s (by omega)) (ev_iteB (fun q1 => ?_) (fun q1 => ?_))
  ·rw [q1, Bool.true_and]
   simp only [Zbh s (by omega), Option.bind_some]; exact Ev.now _
  ·rw [q1, Bool.false_and]; exact Ev.now _
 ·rw [decide_eq_false q, Bool.false_and]; exact Ev.now _
theorem ZcO (s : BA) (hs : s.size ≤ 1048576) : Ev (fun k => spec_l3Val.f k s) (ZY s) := by
 unfold spec_l3Val.f ZY
 refine ev_ite (fun q => ?_) (fun q => ?_)
 ·rw [decide_eq_true q, Bool.true_and]
  refine Ev.bind (ZcN s (by omega)) (ev_iteB (fun q1 => ?_) (fun q1 => ?_))
  ·rw [q1, Bool.true_and]
   refine Ev.bind (Zdb s hs) ?_
   exact Ev.now _
  ·rw [q1, Bool.false_and]; exact Ev.now _
 ·rw [decide_eq_false q, Bool.false_and]; exact Ev.now _
theorem Zb8 (l : List S113) (hl : l.length ≤ 9223372036854775806) (hs : ∀ x ∈ l, x.f0.size ≤ 1048576 ∧ x.f1.size ≤ 1048576) : Ev (fun k => impl_headsOk.f k l) (Zbv l) := by
 refine list_loop_st l hl (fun i (_ : Unit) k => impl_headsOk.l0 k l l (l.length : Int) (i : Int)) (fun _ _ r => Zd r && decide ((l.length : Int) ≤ 8)) (fun _ _ r => ∀ x ∈ r, x.f0.size ≤ 1048576 ∧ x.f1.size ≤ 1048576) ?_ ?_ 0 () hs
 ·intro i _ _ hi
  apply ev_succ; simp only [impl_headsOk.l0, if_neg (show ¬ (i : Int) < l.length by omega)]; exact Ev.now _
 ·intro i _ c r hr h hb hi hw1 ih
  have hbb : rd_T113 l (i : Int) = c := hb _
  obtain ⟨hc0, hc1⟩ := hr c (by simp)
  replace ih := ih () (fun x hx => hr x (by simp [hx]))
  apply ev_succ
  simp only [impl_headsOk.l0, if_pos (show (i : Int) < l.length by omega), if_pos (show (0 : Int) ≤ i by omega), hbb, hw1]
  refine Ev.bind (Zat c.f0 (by omega)) (ev_iteB (fun q1 => ?_) (fun q1 => ?_))
  ·refine Ev.bind (Za7 c.f1 (by omega)) (ev_iteB (fun q2 => ?_) (fun q2 => ?_))
   ·refine ev_ite (fun q3 => ?_) (fun q3 => ev_ite (fun q4 => ?_) (fun q4 => ?_))
    ·rw [show (Zd (c :: r) && decide ((l.length : Int) ≤ 8)) = false by simp [Zd, Zz, ZT, q3]]; exact Ev.now _
    ·rw [show (Zd (c :: r) && decide ((l.length : Int) ≤ 8)) = false by simp [Zd, Zz, ZT, q4]]; exact Ev.now _
    ·rw [show Zd (c :: r) = Zd r by simp [Zd, Zz, ZT, q1, q2, q3, q4]]; exact ih
   ·rw [show (Zd (c :: r) && decide ((l.length : Int) ≤ 8)) = false by simp [Zd, Zz, q2]]; exact Ev.now _
  ·rw [show (Zd (c :: r) && decide ((l.length : Int) ≤ 8)) = false by simp [Zd, Zz, q1]]; exact Ev.now _
theorem Zb9 (l : List S113) (hl : l.length ≤ 9223372036854775806) (hs : ∀ x ∈ l, x.f0.size ≤ 1048576 ∧ x.f1.size ≤ 1048576) : Ev (fun k => spec_l3Heads.f k l) (Zbv l) := by
 refine list_loop_st l hl (fun i (_ : Unit) k => spec_l3Heads.l0 k l (i : Int)) (fun _ _ r => Zd r && decide ((l.length : Int) ≤ 8)) (fun _ _ r => ∀ x ∈ r, x.f0.size ≤ 1048576 ∧ x.f1.size ≤ 1048576) ?_ ?_ 0 () hs
 ·intro i _ _ hi
  apply ev_succ; simp only [spec_l3Heads.l0, if_neg (show ¬ (i : Int) < l.length by omega)]; exact Ev.now _
 ·intro i _ c r hr h hb hi hw1 ih
  have hbb : rd_T113 l (i : Int) = c := hb _
  obtain ⟨hc0, hc1⟩ := hr c (by simp)
  replace ih := ih () (fun x hx => hr x (by simp [hx]))
  apply ev_succ
  simp only [spec_l3Heads.l0, if_pos (show (i : Int) < l.length by omega), if_pos (show (0 : Int) ≤ i by omega), hbb, hw1]
  refine Ev.bind (Zbw c.f0 (by omega)) (ev_iteB (fun q1 => ?_) (fun q1 => ?_))
  ·refine Ev.bind (ZcO c.f1 (by omega)) (ev_iteB (fun q2 => ?_) (fun q2 => ?_))
   ·refine ev_ite (fun q3 => ?_) (fun q3 => ev_ite (fun q4 => ?_) (fun q4 => ?_))
    ·rw [show (Zd (c :: r) && decide ((l.length : Int) ≤ 8)) = false by simp [Zd, Zz, ZT, q3]]; exact Ev.now _
    ·rw [show (Zd (c :: r) && decide ((l.length : Int) ≤ 8)) = false by simp [Zd, Zz, ZT, q4]]; exact Ev.now _
    ·rw [show Zd (c :: r) = Zd r by simp [Zd, Zz, ZT, q1, q2, q3, q4]]; exact ih
   ·rw [show (Zd (c :: r) && decide ((l.length : Int) ≤ 8)) = false by simp [Zd, Zz, q2]]; exact Ev.now _
  ·rw [show (Zd (c :: r) && decide ((l.length : Int) ≤ 8)) = false by simp [Zd, Zz, q1]]; exact Ev.now _
def Zdc (m p : BA) (l : List S113) (b : BA) (m' p' : BA) (l' : List S113) (b' : BA) : Prop := m = m' ∧ p = p' ∧ l = l' ∧ b = b'
theorem ZdZ (c : Int) (h : wrap64 c = c) : spec_l1Large.f c = some (ZA c) := by
 unfold spec_l1Large.f; rw [h, Zaa]; rfl
def ZZ (c : Int) : Bool := decide (33 ≤ c) && decide (c ≤ 126)
def Zv (p : BA) : Bool := Z8 p 1 80 && (bytesOf p).all ZZ
def ZU (m : BA) : Bool := (bytesOf m).all ZA && Z8 m 1 9
def Z6 (m p : BA) (l : List S113) (b : BA) : Bool := ZU m && (Zv p && (Zbv l && decide ((b.size : Int) ≤ 200)))
theorem Zbj : ∀ l : List Int, l.all ZZ = (ZP l && !decide ((32 : Int) ∈ l))
 | [] => rfl
 | c :: r => by
  have ih := Zbj r
  unfold ZP at ih ⊢
  rw [List.all_cons, List.all_cons, ih]
  have e : decide ((32 : Int) ∈ c :: r) = (decide (c = 32) || decide ((32 : Int) ∈ r)) := by
   rw [Bool.eq_iff_iff, Bool.or_eq_true, decide_eq_true_iff, decide_eq_true_iff, decide_eq_true_iff, List.mem_cons]; exact ⟨fun h => h.elim (fun e => .inl e.symm) .inr, fun h => h.elim (fun e => .inl e.symm) .inr⟩
  rw [e]
  have h1 : ZZ c = (ZO c && !decide (c = 32)) := by
   unfold ZZ ZO
   rw [Bool.eq_iff_iff]; simp; omega
  rw [h1]
  cases ZO c <;> cases decide (c = 32) <;> cases r.all ZO <;> cases decide ((32 : Int) ∈ r) <;> rfl
theorem ZaP (m p : BA) (hm : m.size ≤ 1048576) (hp : p.size ≤ 1048576) : Ev (fun k => impl_lineOk.f k m p) (ZU m && Zv p) := by
 unfold ZU
 rw [Bool.and_assoc]
 refine str_loop m (fun i k => impl_lineOk.l0 k m p (i : Int)) (fun r => r.all ZA && (Z8 m 1 9 && Zv p)) ?_ ?_ (by omega) 0
 ·intro i hi
  apply ev_succ
  simp only [impl_lineOk.l0, if_neg (show ¬ (i : Int) < m.size by omega), ZdQ, Option.bind_some]
  rw [List.all_nil, Bool.true_and]
  refine ev_iteB (fun q => ?_) (fun q => ?_)
  ·rw [show Z8 m 1 9 = true from q, Bool.true_and]
   refine ev_iteB (fun q1 => ?_) (fun q1 => ?_)
   ·rw [show Zv p = (bytesOf p).all ZZ by unfold Zv; rw [show Z8 p 1 80 = true from q1, Bool.true_and], Zbj]
    refine Ev.bind (Za6 p (by omega)) (ev_iteB (fun q2 => ?_) (fun q2 => ?_))
    ·rw [q2, Bool.true_and]
     have e0 : strings_Contains.f p (⟨#[32]⟩ : BA) = some (decide (0 ≤ Lib.indexByte p.data.toList 32)) := rfl
     have e1 : (0 ≤ Lib.indexByte p.data.toList 32) ↔ (32 : Int) ∈ bytesOf p := (Za4 _ _).trans (Zef p 32)
     simp only [e0, Option.bind_some, decide_eq_decide.2 e1]; exact Ev.now _
    ·rw [q2, Bool.false_and]; exact Ev.now _
   ·rw [show Zv p = false by unfold Zv; rw [show Z8 p 1 80 = false from q1, Bool.false_and]]; exact Ev.now _
  ·rw [show Z8 m 1 9 = false from q, Bool.false_and]; exact Ev.now _
 ·intro i c r h hb hi hw hw1 ih
  apply ev_succ
  simp only [impl_lineOk.l0, if_pos (show (i : Int) < m.size by omega), if_pos (show (0 : Int) ≤ i by omega), hb, Zb4, Option.bind_some, hw1]
  refine ev_iteB (fun q => ?_) (fun q => ?_)
  ·rw [List.all_cons, q, Bool.true_and]; exact ih
  ·rw [List.all_cons, q, Bool.false_and, Bool.false_and]; exact Ev.now _
theorem ZbN (m : BA) (hm : m.size ≤ 1048576) : Ev (fun k => spec_l3Method.f k m) (ZU m) := by
 refine str_loop m (fun i k => spec_l3Method.l0 k m (i : Int)) (fun r => r.all ZA && Z8 m 1 9) ?_ ?_ (by omega) 0
 ·intro i hi
  apply ev_succ
  simp only [spec_l3Method.l0, if_neg (show ¬ (i : Int) < m.size by omega), Zaa, Option.bind_some]
  rw [List.all_nil, Bool.true_and]; exact Ev.now _
 ·intro i c r h hb hi hw hw1 ih
  apply ev_succ
  simp only [spec_l3Method.l0, if_pos (show (i : Int) < m.size by omega), if_pos (show (0 : Int) ≤ i by omega), hb, ZdZ c hw, Option.bind_some, hw1]
  refine ev_iteB (fun q => ?_) (fun q => ?_)
  ·rw [List.all_cons, q, Bool.true_and]; exact ih
  ·rw [List.all_cons, q, Bool.false_and, Bool.false_and]; exact Ev.now _
theorem ZbO (p : BA) (hp : p.size ≤ 1048576) : Ev (fun k => spec_l3Target.f k p) (Zv p) := by
 unfold Zv
 rw [Bool.and_comm]
 refine str_loop p (fun i k => spec_l3Target.l0 k p (i : Int)) (fun r => r.all ZZ && Z8 p 1 80) ?_ ?_ (by omega) 0
 ·intro i hi
  apply ev_succ
  simp only [spec_l3Target.l0, if_neg (show ¬ (i : Int) < p.size by omega), Zaa, Option.bind_some]
  rw [List.all_nil, Bool.true_and]; exact Ev.now _
 ·intro i c r h hb hi hw hw1 ih
  apply ev_succ
  simp only [spec_l3Target.l0, if_pos (show (i : Int) < p.size by omega), if_pos (show (0 : Int) ≤ i by omega), hb, hw, Zaa, Option.bind_some, hw1]
  refine ev_iteB (fun q => ?_) (fun q => ?_)
  ·rw [List.all_cons, show ZZ c = true from q, Bool.true_and]; exact ih
  ·rw [List.all_cons, show ZZ c = false from q, Bool.false_and, Bool.false_and]; exact Ev.now _
theorem ZcP (m p : BA) (l : List S113) (b : BA) (hm : m.size ≤ 1048576) (hp : p.size ≤ 1048576) (hl : l.length ≤ 9223372036854775806) (hs : ∀ x ∈ l, x.f0.size ≤ 1048576 ∧ x.f1.size ≤ 1048576) : Ev (fun k => impl_ReqOk.f k m p l b) (Z6 m p l b) := by
 unfold impl_ReqOk.f Z6
 rw [← Bool.and_assoc]
 refine Ev.bind (ZaP m p hm hp) (ev_iteB (fun q => ?_) (fun q => ?_))
 ·rw [q, Bool.true_and]
  refine Ev.bind (Zb8 l hl hs) (ev_iteB (fun q1 => ?_) (fun q1 => ?_))
  ·rw [q1, Bool.true_and]; exact Ev.now _
  ·rw [q1, Bool.false_and]; exact Ev.now _
 ·rw [q, Bool.false_and]; exact Ev.now _
theorem ZcQ (m p : BA) (l : List S113) (b : BA) (hm : m.size ≤ 1048576) (hp : p.size ≤ 1048576) (hl : l.length ≤ 9223372036854775806) (hs : ∀ x ∈ l, x.f0.size ≤ 1048576 ∧ x.f1.size ≤ 1048576) : Ev (fun k => spec_ReqOk.f k m p l b) (Z6 m p l b) := by
 unfold spec_ReqOk.f Z6
 refine Ev.bind (ZbN m hm) (ev_iteB (fun q => ?_) (fun q => ?_))
 ·rw [q, Bool.true_and]
  refine Ev.bind (ZbO p hp) (ev_iteB (fun q0 => ?_) (fun q0 => ?_))
  ·rw [q0, Bool.true_and]
   refine Ev.bind (Zb9 l hl hs) (ev_iteB (fun q1 => ?_) (fun q1 => ?_))
   ·rw [q1, Bool.true_and]; exact Ev.now _
   ·rw [q1, Bool.false_and]; exact Ev.now _
  ·rw [q0, Bool.false_and]; exact Ev.now _
 ·rw [q, Bool.false_and]; exact Ev.now _
abbrev Zt := BA × BA × List S113 × BA × BA × Bool × Int × Bool × Bool
def TEb : List Int := [116, 114, 97, 110, 115, 102, 101, 114, 45, 101, 110, 99, 111, 100, 105, 110, 103]
def CLb : List Int := [99, 111, 110, 116, 101, 110, 116, 45, 108, 101, 110, 103, 116, 104]
def ZaH (n v : BA) : Zt → Zt := fun (m, p, hs, b, co, ch, sz, td, bad) =>
 if (ch || td) = true then (m, p, hs, b, co, ch, sz, td, true)
 else if bytesOf n = TEb then (m, p, hs, b, v, true, sz, td, bad)
 else (m, p, hs, b, co, ch, (Z1 v 9999999).1, true, bad || !(Z1 v 9999999).2)
def Zh (s : BA) : BA := ZG (strOfNums (tkC 58 (bytesOf s)))
def ZV (s : BA) : BA := ZS (strOfNums (drC 58 (bytesOf s)).tail)
def ZH (s : BA) : Zt → Zt := fun (m, p, hs, b, co, ch, sz, td, bad) =>
 if drC 58 (bytesOf s) ≠ [] ∧ Zab (Zh s) = true ∧ ZY (ZV s) = true then
  if bytesOf (Zh s) = CLb ∨ bytesOf (Zh s) = TEb then ZaH (Zh s) (ZV s) (m, p, hs, b, co, ch, sz, td, bad)
  else (m, p, hs ++ [⟨Zh s, ZV s⟩], b, co, ch, sz, td, bad)
 else (m, p, hs, b, co, ch, sz, td, true)
theorem Zd0 (n v m p : BA) (hs : List S113) (b co : BA) (ch : Bool) (sz : Int) (td bad : Bool) (hv : v.size ≤ 1048576) :
  Ev (fun k => impl_reqHead_special.f k m p hs b co ch sz td bad n v) (ZaH n v (m, p, hs, b, co, ch, sz, td, bad)) := by
 have hlit : (n.toList = ([116, 114, 97, 110, 115, 102, 101, 114, 45, 101, 110, 99, 111, 100, 105, 110, 103] : List UInt8)) ↔ bytesOf n = TEb := ZC n _
 have hp := ZbL v 9999999 (by omega)
 have j : ∀ x : Bool, x = (ch || td) → Ev (fun k => impl_reqHead_special.j0 k n v x m p hs b co ch sz td bad) (ZaH n v (m, p, hs, b, co, ch, sz, td, bad)) := by
  intro x hx
  apply ev_succ
  simp only [impl_reqHead_special.j0]
  unfold ZaH
  simp only []
  rw [← hx]
  cases x with
  | true => simp only [if_true]; exact Ev.now _
  | false =>
   simp only [Bool.false_eq_true, if_false]
   by_cases q : bytesOf n = TEb
   ·simp only [if_pos q, if_pos (hlit.2 q)]; exact Ev.now _
   ·simp only [if_neg q, if_neg (fun h => q (hlit.1 h)), hp, Option.bind_some]
    cases bad <;> simp <;> exact Ev.now _
 unfold impl_reqHead_special.f
 cases ch with
 | true => simp only [if_true]; exact j true rfl
 | false => simp only [Bool.false_eq_true, if_false]; exact j td rfl
theorem ZeT (s m p : BA) (hs : List S113) (b co : BA) (ch : Bool) (sz : Int) (td bad : Bool) (hz : s.size ≤ 1048576) (hl : hs.length ≤ 1048577) :
  Ev (fun k => impl_reqHead_line.f k m p hs b co ch sz td bad s) (ZH s (m, p, hs, b, co, ch, sz, td, bad)) := by
 obtain ⟨a, v, e, ha, hv⟩ := ZeR s 58 (by omega)
 have ea : a = strOfNums (tkC 58 (bytesOf s)) := by rw [← strOfNums_bytesOf a, ha]; rfl
 have ev : v = strOfNums (drC 58 (bytesOf s)).tail := by rw [← strOfNums_bytesOf v, hv]; rfl
 have hlen := Zbu 58 (bytesOf s)
 rw [bytesOf_length] at hlen
 have sa : a.size ≤ 1048576 := by rw [ea, strOfNums_size]; omega
 have sv : v.size ≤ 1048576 := by rw [ev, strOfNums_size, List.length_tail]; omega
 have el : ZG a = Zh s := by unfold Zh; rw [ea]
 have et : ZS v = ZV s := by unfold ZV; rw [ev]
 have sl : (Zh s).size ≤ 1048576 := by rw [← el]; unfold ZG Z2; rw [strOfNums_size, List.length_map, bytesOf_length]; omega
 have st : (ZV s).size ≤ 1048576 := by rw [← et]; have := ZcB v; omega
 have h1 := Za5 a sa
 have h2 := Zbh v (by omega)
 rw [el] at h1
 rw [et] at h2
 have h3 := Zat (Zh s) (by omega)
 have h4 := Za7 (ZV s) st
 have jbad : Ev (fun k => impl_reqHead_line.j0 k (Zh s) (ZV s) true m p hs b co ch sz td bad) (m, p, hs, b, co, ch, sz, td, true) := by
  apply ev_succ; simp only [impl_reqHead_line.j0, if_true]; exact Ev.now _
 have hCL : ((Zh s).toList = ([99, 111, 110, 116, 101, 110, 116, 45, 108, 101, 110, 103, 116, 104] : List UInt8)) ↔ bytesOf (Zh s) = CLb := ZC _ _
 have hTE : ((Zh s).toList = ([116, 114, 97, 110, 115, 102, 101, 114, 45, 101, 110, 99, 111, 100, 105, 110, 103] : List UInt8)) ↔ bytesOf (Zh s) = TEb := ZC _ _
 have hsp := Zd0 (Zh s) (ZV s) m p hs b co ch sz td bad st
 have jok : Ev (fun k => impl_reqHead_line.j0 k (Zh s) (ZV s) false m p hs b co ch sz td bad) (if bytesOf (Zh s) = CLb ∨ bytesOf (Zh s) = TEb then ZaH (Zh s) (ZV s) (m, p, hs, b, co, ch, sz, td, bad) else (m, p, hs ++ [⟨Zh s, ZV s⟩], b, co, ch, sz, td, bad)) := by
  apply ev_succ
  simp only [impl_reqHead_line.j0, Bool.false_eq_true, if_false]
  by_cases q1 : bytesOf (Zh s) = CLb
  ·rw [if_pos (show bytesOf (Zh s) = CLb ∨ bytesOf (Zh s) = TEb from .inl q1)]
   simp only [if_pos (hCL.2 q1)]
   exact Ev.bind hsp (Ev.now _)
  ·simp only [if_neg (fun h => q1 (hCL.1 h))]
   by_cases q2 : bytesOf (Zh s) = TEb
   ·rw [if_pos (show bytesOf (Zh s) = CLb ∨ bytesOf (Zh s) = TEb from .inr q2)]
    simp only [if_pos (hTE.2 q2)]
    exact Ev.bind hsp (Ev.now _)
   ·rw [if_neg (show ¬ (bytesOf (Zh s) = CLb ∨ bytesOf (Zh s) = TEb) from fun h => h.elim q1 q2)]
    simp only [if_neg (fun h => q2 (hTE.1 h)), if_pos (show hs.length < 4398046511104 by omega)]
    exact Ev.now _
 unfold impl_reqHead_line.f ZH
 simp only [e, Option.bind_some, decide_eq_true_iff]
 refine Ev.bind h1 ?_
 simp only [h2, Option.bind_some]
 have e58 : ((58 : UInt8).toNat : Int) = 58 := rfl
 simp only [e58]
 by_cases q0 : drC 58 (bytesOf s) ≠ []
 ·simp only [if_pos q0]
  refine Ev.bind h3 ?_
  by_cases q1 : Zab (Zh s) = true
  ·simp only [if_pos q1]
   refine Ev.bind h4 ?_
   by_cases q2 : ZY (ZV s) = true
   ·rw [if_pos ⟨q0, q1, q2⟩, q2]; exact jok
   ·rw [if_neg (fun h => q2 h.2.2), Bool.not_eq_true _ |>.mp q2]; exact jbad
  ·simp only [if_neg q1]
   rw [if_neg (fun h => q1 h.2.1)]; exact jbad
 ·simp only [if_neg q0]
  rw [if_neg (fun h => q0 h.1)]; exact jbad
def Zaw (x : BA) (h : S113) : BA := x ++ ((((h.f0) ++ (⟨#[58, 32]⟩ : BA)) ++ h.f1) ++ (⟨#[13, 10]⟩ : BA))
def htL : BA → List S113 → BA
 | x, [] => x
 | x, c :: r => htL (Zaw x c) r
def Zak (l : List S113) : BA := htL (⟨#[]⟩ : BA) l
theorem ZeC : (⟨#[58, 32]⟩ : BA).size = 2 := rfl
theorem ZeD : (⟨#[13, 10]⟩ : BA).size = 2 := rfl
theorem ZaY (x : BA) (h : S113) : (Zaw x h).size = x.size + (h.f0.size + 2 + h.f1.size + 2) := by
 unfold Zaw; simp only [ByteArray.size_append, ZeC, ZeD]
theorem Zdd : ∀ (l : List S113) (x : BA), (∀ y ∈ l, y.f0.size ≤ 1048576 ∧ y.f1.size ≤ 1048576) → (htL x l).size ≤ x.size + l.length * 2097156
 | [], x, _ => by simp [htL]
 | c :: r, x, h => by
  have h1 := Zdd r (Zaw x c) (fun y hy => h y (by simp [hy]))
  have h2 := h c (by simp)
  rw [ZaY] at h1
  simp only [htL, List.length_cons]
  omega
theorem Za8 (l : List S113) (hl : l.length ≤ 1048576) (h : ∀ y ∈ l, y.f0.size ≤ 1048576 ∧ y.f1.size ≤ 1048576) : (Zak l).size ≤ 2199027449856 := by
 have := Zdd l (⟨#[]⟩ : BA) h
 rw [show (⟨#[]⟩ : BA).size = 0 from rfl] at this
 unfold Zak
 omega
theorem ZbP (l : List S113) (hl : l.length ≤ 1048576) (hs : ∀ x ∈ l, x.f0.size ≤ 1048576 ∧ x.f1.size ≤ 1048576) : Ev (fun k => impl_headText.f k l) (Zak l) := by
 refine list_loop_st l (by omega) (fun i x k => impl_headText.l0 k x l (l.length : Int) (i : Int)) (fun _ x r => htL x r) (fun i x r => x.size ≤ i * 2097156 ∧ ∀ y ∈ r, y.f0.size ≤ 1048576 ∧ y.f1.size ≤ 1048576) ?_ ?_ 0 _ ⟨by rw [show (⟨#[]⟩ : BA).size = 0 from rfl]; omega, hs⟩
 ·intro i x _ hi
  apply ev_succ; simp only [impl_headText.l0, if_neg (show ¬ (i : Int) < l.length by omega)]; exact Ev.now _
 ·intro i x c r ⟨hx, hr⟩ h hb hi hw1 ih
  have hbb : rd_T113 l (i : Int) = c := hb _
  obtain ⟨hc0, hc1⟩ := hr c (by simp)
  replace ih := ih (Zaw x c) ⟨by rw [ZaY]; omega, fun y hy => hr y (by simp [hy])⟩
  apply ev_succ
  simp only [impl_headText.l0, if_pos (show (i : Int) < l.length by omega), if_pos (show (0 : Int) ≤ i by omega), hbb, hw1, ByteArray.size_append, ZeC, ZeD, if_pos (show c.f0.size + 2 ≤ 9223372036854775807 by omega), if_pos (show c.f0.size + 2 + c.f1.size ≤ 9223372036854775807 by omega), if_pos (show c.f0.size + 2 + c.f1.size + 2 ≤ 9223372036854775807 by omega), if_pos (show x.size + (c.f0.size + 2 + c.f1.size + 2) ≤ 9223372036854775807 by omega)]
  exact ih
theorem Zdu (x : BA) (h : S113) : (((x ++ h.f0) ++ (⟨#[58, 32]⟩ : BA)) ++ h.f1) ++ (⟨#[13, 10]⟩ : BA) = Zaw x h := by
 unfold Zaw; simp only [ByteArray.append_assoc]
theorem Za9 (l : List S113) (hl : l.length ≤ 1048576) (hs : ∀ x ∈ l, x.f0.size ≤ 1048576 ∧ x.f1.size ≤ 1048576) : Ev (fun k => spec_l3HeadsText.f k l) (Zak l) := by
 refine list_loop_st l (by omega) (fun i x k => spec_l3HeadsText.l0 k l x (i : Int)) (fun _ x r => htL x r) (fun i x r => x.size ≤ i * 2097156 ∧ ∀ y ∈ r, y.f0.size ≤ 1048576 ∧ y.f1.size ≤ 1048576) ?_ ?_ 0 _ ⟨by rw [show (⟨#[]⟩ : BA).size = 0 from rfl]; omega, hs⟩
 ·intro i x _ hi
  apply ev_succ; simp only [spec_l3HeadsText.l0, if_neg (show ¬ (i : Int) < l.length by omega)]; exact Ev.now _
 ·intro i x c r ⟨hx, hr⟩ h hb hi hw1 ih
  have hbb : rd_T113 l (i : Int) = c := hb _
  obtain ⟨hc0, hc1⟩ := hr c (by simp)
  replace ih := ih (Zaw x c) ⟨by rw [ZaY]; omega, fun y hy => hr y (by simp [hy])⟩
  apply ev_succ
  simp only [spec_l3HeadsText.l0, if_pos (show (i : Int) < l.length by omega), if_pos (show (0 : Int) ≤ i by omega), hbb, hw1, Zdu, ByteArray.size_append, ZeC, ZeD, if_pos (show x.size + c.f0.size ≤ 9223372036854775807 by omega), if_pos (show x.size + c.f0.size + 2 ≤ 9223372036854775807 by omega), if_pos (show x.size + c.f0.size + 2 + c.f1.size ≤ 9223372036854775807 by omega), if_pos (show x.size + c.f0.size + 2 + c.f1.size + 2 ≤ 9223372036854775807 by omega)]
  exact ih
theorem ZaI : ∀ (n u : Nat) (x : BA), u < 10 ^ (n + 1) → u ≤ 9223372036854775807 → x.size ≤ 1000 - n → n ≤ 20 → bytesOf x = (Zf u).drop ((Zf u).length - 1) ++ (bytesOf x).drop 1 → Ev (fun k => spec_NumText.l0 k (u : Int) x) (strOfNums (Zf u ++ (bytesOf x).drop 1))
 | 0, u, x, h, hu, hx, hn, hb => by
  have h9 : u ≤ 9 := by omega
  apply ev_succ
  simp only [spec_NumText.l0, if_neg (show ¬ (u : Int) > 9 by omega)]
  rw [Zu u h9] at hb ⊢
  simp only [List.length_cons, List.length_nil, List.drop_zero, Nat.zero_add, Nat.sub_self] at hb
  rw [← hb, strOfNums_bytesOf]
  exact Ev.now _
 | n + 1, u, x, h, hu, hx, hn, hb => by
  apply ev_succ
  rcases Nat.lt_or_ge 9 u with h9 | h9
  ·have hy : bytesOf (strOfNums [48 + ((u / 10 % 10 : Nat) : Int)]) = [48 + ((u / 10 % 10 : Nat) : Int)] := bytesOf_strOfNums _ (by intro z hz; simp at hz; omega)
   have hs1 : (strOfNums [48 + ((u / 10 % 10 : Nat) : Int)]).size = 1 := by rw [size_len, hy]; rfl
   simp only [spec_NumText.l0, if_pos (show (u : Int) > 9 by omega), Zey u hu, Zb2 (u / 10) (by omega), Option.bind_some, hs1, if_pos (show 1 + x.size ≤ 9223372036854775807 by omega)]
   have e : bytesOf (strOfNums [48 + ((u / 10 % 10 : Nat) : Int)] ++ x) = (48 + ((u / 10 % 10 : Nat) : Int)) :: bytesOf x := by rw [bytesOf_append, hy]; rfl
   have ih := ZaI n (u / 10) (strOfNums [48 + ((u / 10 % 10 : Nat) : Int)] ++ x) (by rw [Nat.pow_succ] at h; omega) (by omega) (by rw [ByteArray.size_append, hs1]; omega) (by omega) (by
    rw [e]
    simp only [List.drop_succ_cons, List.drop_zero]
    rcases Nat.lt_or_ge 9 (u / 10) with h10 | h10
    ·rw [ZD (u / 10) h10]
     simp
    ·rw [Zu (u / 10) h10, Nat.mod_eq_of_lt (by omega)]
     simp)
   rw [e] at ih
   simp only [List.drop_succ_cons, List.drop_zero] at ih
   rw [ZD u h9] at hb ⊢
   simp only [List.length_append, List.length_cons, List.length_nil, Nat.zero_add, Nat.add_sub_cancel, List.drop_left] at hb
   rw [List.append_assoc, ← hb]
   exact ih
  ·simp only [spec_NumText.l0, if_neg (show ¬ (u : Int) > 9 by omega)]
   rw [Zu u h9] at hb ⊢
   simp only [List.length_cons, List.length_nil, List.drop_zero, Nat.zero_add, Nat.sub_self] at hb
   rw [← hb, strOfNums_bytesOf]
   exact Ev.now _
theorem ZaJ (u : Nat) (hu : u ≤ 9223372036854775807) : Ev (fun k => spec_NumText.j0 k (u : Int)) (strOfNums (Zf u)) := by
 apply ev_succ
 simp only [spec_NumText.j0, Zb2 u hu]
 have hy : bytesOf (strOfNums [48 + ((u % 10 : Nat) : Int)]) = [48 + ((u % 10 : Nat) : Int)] := bytesOf_strOfNums _ (by intro z hz; simp at hz; omega)
 have hs1 : (strOfNums [48 + ((u % 10 : Nat) : Int)]).size = 1 := by rw [size_len, hy]; rfl
 have := ZaI 18 u (strOfNums [48 + ((u % 10 : Nat) : Int)]) (by omega) hu (by omega) (by omega) (by
  rw [hy]
  rcases Nat.lt_or_ge 9 u with h9 | h9
  ·rw [ZD u h9]; simp
  ·rw [Zu u h9, Nat.mod_eq_of_lt (by omega)]; simp)
 rw [hy] at this
 simpa using this
theorem Zca (n : Int) (hn : n ≤ 9223372036854775807) : Ev (fun k => spec_NumText.f k n) (strOfNums (Zf n.toNat)) := by
 unfold spec_NumText.f
 refine ev_ite (fun h => ?_) (fun h => ?_)
 ·rw [show n.toNat = 0 from by omega]
  exact ZaJ 0 (by omega)
 ·have := ZaJ n.toNat (by omega)
  rwa [Int.toNat_of_nonneg (by omega)] at this
theorem Zaq : (⟨#[13, 10]⟩ : BA).size = 2 := rfl
def Zac (b : BA) : BA := ((⟨#[99, 111, 110, 116, 101, 110, 116, 45, 108, 101, 110, 103, 116, 104, 58, 32]⟩ : BA) ++ strOfNums (Zf b.size)) ++ (⟨#[13, 10]⟩ : BA)
theorem Zd1 : (⟨#[99, 111, 110, 116, 101, 110, 116, 45, 108, 101, 110, 103, 116, 104, 58, 32]⟩ : BA).size = 16 := rfl
theorem ZbQ (u : Nat) (h : u ≤ 1048576) : (strOfNums (Zf u)).size ≤ 7 := by
 rw [size_len, bytesOf_strOfNums _ (ZK u)]
 exact ZaW 6 u (by omega)
theorem Zbk (b : BA) (hb : b.size ≤ 1048576) : impl_lengthText.f b = some (Zac b) := by
 have hn := ZbQ b.size hb
 have e := Zae (b.size : Int) (by omega)
 rw [Int.toNat_natCast] at e
 unfold impl_lengthText.f
 rw [e, Option.bind_some, if_pos (by omega), if_pos (by simp only [ByteArray.size_append, Zd1]; omega)]
 rfl
theorem ZaQ (l : List BA) (i : Nat) : rdOf ByteArray.empty l (i : Int) = l.getD i ByteArray.empty := by
 unfold rdOf; rw [Int.toNat_natCast]
def CHb : List Int := [99, 104, 117, 110, 107, 101, 100]
def ZaZ : List Int := [72, 84, 84, 80, 47, 49, 46, 49]
def Z3 (st : Zt) : List S113 := st.2.2.1
def ZbR (st : Zt) : BA := st.2.2.2.2.1
def Ze4 (st : Zt) : Bool := st.2.2.2.2.2.1
def Zco (st : Zt) : Int := st.2.2.2.2.2.2.1
def Zfc (st : Zt) : Bool := st.2.2.2.2.2.2.2.2
def stZ : Zt := (⟨#[]⟩, ⟨#[]⟩, [], ⟨#[]⟩, ⟨#[]⟩, false, 0, false, false)
def Zaf (st : Zt) : Int := if Zfc st = true then 400 else if 8 < (Z3 st).length then 431 else if Ze4 st = true ∧ bytesOf (ZG (ZbR st)) ≠ CHb then 501 else if 200 < Zco st then 413 else 0
theorem ZcC (m p : BA) (hs : List S113) (b co : BA) (ch : Bool) (sz : Int) (td bad : Bool) : Zaf (m, p, hs, b, co, ch, sz, td, bad) = if bad = true then 400 else if 8 < hs.length then 431 else if ch = true ∧ bytesOf (ZG co) ≠ CHb then 501 else if 200 < sz then 413 else 0 := rfl
def Z9 (ls : List BA) (st : Zt) : Zt := ls.foldl (fun st s => ZH s st) st
def rhS (l : List Int) : Zt × Int :=
 if (Zm 32 (bytesOf ((Zg l).getD 0 ByteArray.empty))).length = 3 ∧ bytesOf ((Zm 32 (bytesOf ((Zg l).getD 0 ByteArray.empty))).getD 2 ByteArray.empty) = ZaZ ∧ (ZU ((Zm 32 (bytesOf ((Zg l).getD 0 ByteArray.empty))).getD 0 ByteArray.empty) && Zv ((Zm 32 (bytesOf ((Zg l).getD 0 ByteArray.empty))).getD 1 ByteArray.empty)) = true then
  (Z9 ((Zg l).drop 1) ((Zm 32 (bytesOf ((Zg l).getD 0 ByteArray.empty))).getD 0 ByteArray.empty, (Zm 32 (bytesOf ((Zg l).getD 0 ByteArray.empty))).getD 1 ByteArray.empty, [], ⟨#[]⟩, ⟨#[]⟩, false, 0, false, false),
   Zaf (Z9 ((Zg l).drop 1) ((Zm 32 (bytesOf ((Zg l).getD 0 ByteArray.empty))).getD 0 ByteArray.empty, (Zm 32 (bytesOf ((Zg l).getD 0 ByteArray.empty))).getD 1 ByteArray.empty, [], ⟨#[]⟩, ⟨#[]⟩, false, 0, false, false)))
 else (stZ, 400)
def ZcV (r : Zt × Int) : BA × BA × List S113 × BA × BA × Bool × Int × Bool × Bool × Int :=
 (r.1.1, r.1.2.1, r.1.2.2.1, r.1.2.2.2.1, r.1.2.2.2.2.1, r.1.2.2.2.2.2.1, r.1.2.2.2.2.2.2.1, r.1.2.2.2.2.2.2.2.1, r.1.2.2.2.2.2.2.2.2, r.2)
def StP (n : Nat) (st : Zt) : Prop := (Z3 st).length ≤ n ∧ (∀ x ∈ Z3 st, x.f0.size ≤ 1048576 ∧ x.f1.size ≤ 1048576) ∧ (ZbR st).size ≤ 1048576 ∧ 0 ≤ Zco st
theorem ZeU (s : BA) (m : Int) : 0 ≤ (Z1 s m).1 := by
 by_cases h : (Z1 s m).2 = true
 ·exact (ZdU s m h).1
 ·have e : Z1 s m = (0, false) ∨ (Z1 s m).2 = true := by
   by_cases q : ∃ u : Nat, bytesOf s = Zf u ∧ s.size ≤ 7 ∧ (u : Int) ≤ m
   ·obtain ⟨u, h1, h2, h3⟩ := q
    right; rw [ZbK s m u h1 h2 h3]
   ·left; exact ZdH s m (fun u h1 h2 h3 => q ⟨u, h1, h2, h3⟩)
  rcases e with e | e
  ·rw [e]; exact Int.le_refl 0
  ·exact absurd e h
theorem Zd2 (s : BA) (n : Nat) (h : s.size ≤ n) : (Zh s).size ≤ n := by
 have hlen := Zbu 58 (bytesOf s)
 rw [bytesOf_length] at hlen
 have := bytesOf_length (strOfNums (tkC 58 (bytesOf s)))
 unfold Zh ZG Z2; rw [strOfNums_size, List.length_map, bytesOf_length, strOfNums_size]; omega
theorem Zei (s : BA) (n : Nat) (h : s.size ≤ n) : (ZV s).size ≤ n := by
 have hlen := Zbu 58 (bytesOf s)
 rw [bytesOf_length] at hlen
 have := ZcB (strOfNums (drC 58 (bytesOf s)).tail)
 rw [strOfNums_size, List.length_tail] at this
 unfold ZV; omega
theorem ZdI {n : Nat} {st : Zt} {s : BA} (h : StP n st) (hs : s.size ≤ 1048576) : StP (n + 1) (ZH s st) := by
 obtain ⟨m, p, hs', b, co, ch, sz, td, bad⟩ := st
 obtain ⟨h1, h2, h3, h4⟩ := h
 have hv := Zei s 1048576 hs
 have hn := Zd2 s 1048576 hs
 simp only [Z3, ZbR, Zco] at h1 h2 h3 h4
 unfold ZH
 simp only []
 split
 ·split
  ·unfold ZaH
   simp only []
   split
   ·exact ⟨by simp only [Z3]; omega, h2, h3, h4⟩
   ·split
    ·exact ⟨by simp only [Z3]; omega, h2, hv, h4⟩
    ·exact ⟨by simp only [Z3]; omega, h2, h3, ZeU _ _⟩
  ·refine ⟨by simp only [Z3, List.length_append, List.length_cons, List.length_nil]; omega, fun x hx => ?_, h3, h4⟩
   rcases List.mem_append.1 hx with hx | hx
   ·exact h2 x hx
   ·simp only [List.mem_cons, List.not_mem_nil, or_false] at hx
    subst hx; exact ⟨hn, hv⟩
 ·exact ⟨by simp only [Z3]; omega, h2, h3, h4⟩
theorem Zej : ∀ (ls : List BA) (n : Nat) (st : Zt), StP n st → (∀ x ∈ ls, x.size ≤ 1048576) → StP (n + ls.length) (Z9 ls st)
 | [], n, st, h, _ => h
 | s :: ls, n, st, h, hx => by
  have := Zej ls (n + 1) (ZH s st) (ZdI h (hx s (by simp))) (fun x h => hx x (by simp [h]))
  rw [List.length_cons, show n + (ls.length + 1) = n + 1 + ls.length by omega]
  exact this
theorem Zde (ls0 ls : List BA) (st : Zt) (i : Int) (hi : ¬ i < (ls.length : Int)) (h : StP 1048577 st) :
  Ev (fun k => impl_readHead.l0 k ls0 ls (ls.length : Int) i st.1 st.2.1 st.2.2.1 st.2.2.2.1 st.2.2.2.2.1 st.2.2.2.2.2.1 st.2.2.2.2.2.2.1 st.2.2.2.2.2.2.2.1 st.2.2.2.2.2.2.2.2) (ZcV (st, Zaf st)) := by
 obtain ⟨m, p, hs', b, co, ch, sz, td, bad⟩ := st
 obtain ⟨h1, h2, h3, h4⟩ := h
 simp only [Z3, ZbR, Zco] at h1 h2 h3 h4
 have hlow := Za5 co h3
 have hlit : ((ZG co).toList = ([99, 104, 117, 110, 107, 101, 100] : List UInt8)) ↔ bytesOf (ZG co) = CHb := ZC _ _
 have j2 : ∀ x : Bool, (x = true ↔ ch = true ∧ bytesOf (ZG co) ≠ CHb) → Ev (fun k => impl_readHead.j2 k x m p hs' b co ch sz td bad) (m, p, hs', b, co, ch, sz, td, bad, if ch = true ∧ bytesOf (ZG co) ≠ CHb then 501 else if 200 < sz then 413 else 0) := by
  intro x hx
  apply ev_succ
  simp only [impl_readHead.j2]
  by_cases q : x = true
  ·rw [if_pos (hx.1 q)]; simp only [if_pos q]; exact Ev.now _
  ·rw [if_neg (fun h => q (hx.2 h))]; simp only [if_neg q]
   by_cases q1 : sz > 200
   ·rw [if_pos (show 200 < sz from q1)]; simp only [if_pos q1]; exact Ev.now _
   ·rw [if_neg (show ¬ 200 < sz from q1)]; simp only [if_neg q1]; exact Ev.now _
 show Ev _ (m, p, hs', b, co, ch, sz, td, bad, Zaf (m, p, hs', b, co, ch, sz, td, bad))
 rw [ZcC]
 apply ev_succ
 simp only [impl_readHead.l0, if_neg hi]
 by_cases c0 : bad = true
 ·simp only [if_pos c0]; exact Ev.now _
 simp only [if_neg c0]
 by_cases c1 : (hs'.length : Int) > 8
 ·simp only [if_pos c1, if_pos (show 8 < hs'.length by omega)]; exact Ev.now _
 simp only [if_neg c1, if_neg (show ¬ 8 < hs'.length by omega)]
 cases ch with
 | true =>
  simp only [if_true]
  refine Ev.bind hlow ?_
  have := j2 ((ZG co).toList != ([99, 104, 117, 110, 107, 101, 100] : List UInt8)) (by
   rw [bne_iff_ne, Ne, hlit]; simp)
  simpa using this
 | false =>
  simp only [Bool.false_eq_true, if_false]
  have := j2 false (by simp)
  simpa using this
theorem ZbC (ls0 ls : List BA) (hx : ∀ x ∈ ls, x.size ≤ 1048576) (hn : ls.length ≤ 1048576) : ∀ (m i : Nat) (st : Zt), ls.length - i = m → i ≤ ls.length → StP i st →
  Ev (fun k => impl_readHead.l0 k ls0 ls (ls.length : Int) (i : Int) st.1 st.2.1 st.2.2.1 st.2.2.2.1 st.2.2.2.2.1 st.2.2.2.2.2.1 st.2.2.2.2.2.2.1 st.2.2.2.2.2.2.2.1 st.2.2.2.2.2.2.2.2) (ZcV (Z9 (ls.drop i) st, Zaf (Z9 (ls.drop i) st)))
 | 0, i, st, hm, hi, h => by
  have he : i = ls.length := by omega
  subst he
  rw [List.drop_length]
  exact Zde ls0 ls st _ (by omega) ⟨by have := h.1; omega, h.2⟩
 | m + 1, i, st, hm, hi, h => by
  have hlt : i < ls.length := by omega
  have hsz := hx ls[i] (List.getElem_mem hlt)
  have ih := ZbC ls0 ls hx hn m (i + 1) (ZH ls[i] st) (by omega) (by omega) (ZdI h hsz)
  have hw1 : wrap64 ((i : Int) + 1) = ((i + 1 : Nat) : Int) := by rw [wrap_id (by omega) (by omega)]; rfl
  have hgt : ls[i]? = some ls[i] := List.getElem?_eq_getElem hlt
  have hrd : rdOf ByteArray.empty ls (i : Int) = ls[i] := by rw [ZaQ, List.getD_eq_getElem?_getD, hgt]; rfl
  have hd : ls.drop i = ls[i] :: ls.drop (i + 1) := List.drop_eq_getElem_cons hlt
  have hfold : Z9 (ls.drop i) st = Z9 (ls.drop (i + 1)) (ZH ls[i] st) := by rw [hd]; rfl
  rw [hfold]
  have hl := h.1
  obtain ⟨a0, a1, a2, a3, a4, a5, a6, a7, a8⟩ := st
  simp only [Z3] at hl
  have hline := ZeT ls[i] a0 a1 a2 a3 a4 a5 a6 a7 a8 hsz (by omega)
  apply ev_succ
  simp only [impl_readHead.l0, if_pos (show (i : Int) < (ls.length : Int) by omega), if_pos (show (0 : Int) ≤ (i : Int) by omega), hrd, hw1]
  exact Ev.bind hline ih
theorem Zek (s : BA) (c : UInt8) (h : s.size ≤ 1048576) : strings_Split.f s (⟨#[c]⟩ : BA) = some (Zm (c.toNat : Int) (bytesOf s)) := by
 unfold strings_Split.f
 rw [if_pos ⟨by omega, Nat.le_refl 1⟩, ZcL c s.size s (Nat.le_refl _)]
theorem Zbl (c : Int) : ∀ (l cur : List Int), ∀ a ∈ ZQ c cur l, a.length ≤ cur.length + l.length
 | [], cur, a, h => by simp [ZQ] at h; subst h; simp
 | x :: r, cur, a, h => by
  rw [ZQ] at h
  split at h
  ·simp only [List.mem_cons] at h
   rcases h with h | h
   ·subst h; omega
   ·have := Zbl c r [] a h; simp only [List.length_nil, List.length_cons] at this ⊢; omega
  ·have := Zbl c r _ a h; simp only [List.length_append, List.length_cons, List.length_nil] at this ⊢; omega
theorem Zdv (c : Int) (l : List Int) (i : Nat) : ((Zm c l).getD i ByteArray.empty).size ≤ l.length := by
 rw [List.getD_eq_getElem?_getD]
 rcases Nat.lt_or_ge i (Zm c l).length with h | h
 ·rw [List.getElem?_eq_getElem h]
  show ((Zm c l)[i]).size ≤ _
  obtain ⟨a, ha, e⟩ := List.mem_map.1 (List.getElem_mem h)
  rw [← e, strOfNums_size]
  have := Zbl c l [] a ha
  simpa using this
 ·rw [List.getElem?_eq_none h]; exact Nat.zero_le _
theorem Zdw (l : List Int) (hl : l.length ≤ 1048576) (hr : ∀ x ∈ l, 0 ≤ x ∧ x < 256) : Ev (fun k => impl_readHead.f k (strOfNums l)) (ZcV (rhS l)) := by
 have hln := Zb3 l
 have hsz := ZbB hr
 unfold impl_readHead.f rhS
 simp only [Zds l hl hr, Option.bind_some]
 generalize Zg l = ls at hln hsz
 have h00 : rdOf ByteArray.empty ls 0 = ls.getD 0 ByteArray.empty := ZaQ ls 0
 have hg : (ls.getD 0 ByteArray.empty).size ≤ 1048576 := by
  rw [List.getD_eq_getElem?_getD, List.getElem?_eq_getElem (show 0 < ls.length by omega)]
  have := hsz ls[0] (List.getElem_mem _)
  show ls[0].size ≤ _
  omega
 simp only [if_pos (show (0 : Int) < (ls.length : Int) by omega), h00, Zek _ 32 hg, Option.bind_some, show ((32 : UInt8).toNat : Int) = 32 from rfl]
 have hps := Zdv 32 (bytesOf (ls.getD 0 ByteArray.empty))
 rw [bytesOf_length] at hps
 generalize Zm 32 (bytesOf (ls.getD 0 ByteArray.empty)) = ps at hps
 have g0 : rdOf ByteArray.empty ps 0 = ps.getD 0 ByteArray.empty := ZaQ ps 0
 have g1 : rdOf ByteArray.empty ps 1 = ps.getD 1 ByteArray.empty := ZaQ ps 1
 have g2 : rdOf ByteArray.empty ps 2 = ps.getD 2 ByteArray.empty := ZaQ ps 2
 have hlit : ((ps.getD 2 ByteArray.empty).toList = ([72, 84, 84, 80, 47, 49, 46, 49] : List UInt8)) ↔ bytesOf (ps.getD 2 ByteArray.empty) = ZaZ := ZC _ _
 have jbad : Ev (fun k => impl_readHead.j0 k ls ps true (⟨#[]⟩ : BA) (⟨#[]⟩ : BA) ([] : List S113) (⟨#[]⟩ : BA) (⟨#[]⟩ : BA) false 0 false false) (ZcV (stZ, 400)) := by
  apply ev_succ; simp only [impl_readHead.j0, if_true]; exact Ev.now _
 by_cases q0 : ps.length = 3
 ·simp only [if_pos (show (ps.length : Int) = 3 by omega), if_pos (show (2 : Int) < (ps.length : Int) by omega), g0, g1, g2]
  by_cases q1 : bytesOf (ps.getD 2 ByteArray.empty) = ZaZ
  ·simp only [if_pos (hlit.2 q1), if_pos (show (0 : Int) < (ps.length : Int) by omega), if_pos (show (1 : Int) < (ps.length : Int) by omega)]
   refine Ev.bind (ZaP _ _ (Nat.le_trans (hps 0) hg) (Nat.le_trans (hps 1) hg)) ?_
   by_cases q2 : (ZU (ps.getD 0 ByteArray.empty) && Zv (ps.getD 1 ByteArray.empty)) = true
   ·rw [if_pos ⟨q0, q1, q2⟩, q2]
    apply ev_succ
    simp only [impl_readHead.j0, Bool.not_true, Bool.false_eq_true, if_false, if_pos (show (0 : Int) < (ps.length : Int) by omega), if_pos (show (1 : Int) < (ps.length : Int) by omega), if_pos (show (1 : Int) ≤ (ls.length : Int) by omega), Option.bind_some, g0, g1]
    have hd : ∀ x ∈ ls.drop 1, x.size ≤ 1048576 := fun x hx => by have := hsz x (List.mem_of_mem_drop hx); omega
    exact ZbC ls (ls.drop 1) hd (by rw [List.length_drop]; omega) _ 0 (ps.getD 0 ByteArray.empty, ps.getD 1 ByteArray.empty, [], ⟨#[]⟩, ⟨#[]⟩, false, 0, false, false) rfl (Nat.zero_le _) ⟨Nat.le_refl 0, fun x hx => absurd hx (by simp [Z3]), by simp only [ZbR]; decide, Int.le_refl 0⟩
   ·rw [if_neg (fun h => q2 h.2.2), Bool.not_eq_true _ |>.mp q2]; exact jbad
  ·simp only [if_neg (fun h => q1 (hlit.1 h))]
   rw [if_neg (fun h => q1 h.2.1)]; exact jbad
 ·simp only [if_neg (show ¬ (ps.length : Int) = 3 by omega)]
  rw [if_neg (fun h => q0 h.1)]; exact jbad
abbrev Zdf := BA × BA × List S113 × BA × Int × Int
def Zcp (c : Int) : Zdf := (⟨#[]⟩, ⟨#[]⟩, [], ⟨#[]⟩, 0, c)
def ZB (l : List Int) (e : Nat) (m p : BA) (hs : List S113) (ch : Bool) (sz : Int) (code : Int) : Zdf :=
 if code ≠ 0 then Zcp code
 else if ch = true then
  (if (chR (l.length + 1) (l.drop e) []).2.2 = 0 then (m, p, hs, strOfNums (chR (l.length + 1) (l.drop e) []).1, (l.length : Int) - ((chR (l.length + 1) (l.drop e) []).2.1.length : Int), 0) else Zcp (chR (l.length + 1) (l.drop e) []).2.2)
 else if l.length < e + sz.toNat then Zcp 1
 else (m, p, hs, strOfNums ((l.drop e).take sz.toNat), ((e + sz.toNat : Nat) : Int), 0)
def Zw (l : List Int) : Zdf :=
 if Zc l < 0 then (if 400 < l.length then Zcp 431 else Zcp 1)
 else ZB l (Zc l).toNat (rhS (l.take ((Zc l).toNat - 4))).1.1 (rhS (l.take ((Zc l).toNat - 4))).1.2.1 (Z3 (rhS (l.take ((Zc l).toNat - 4))).1) (Ze4 (rhS (l.take ((Zc l).toNat - 4))).1) (Zco (rhS (l.take ((Zc l).toNat - 4))).1) (rhS (l.take ((Zc l).toNat - 4))).2
theorem Zfd (l : List Int) (hl : l.length ≤ 1048575) (hr : ∀ x ∈ l, 0 ≤ x ∧ x < 256) : StP 1048577 (rhS l).1 ∧ ((rhS l).2 = 0 → Zco (rhS l).1 ≤ 200 ∧ (Z3 (rhS l).1).length ≤ 8) ∧ (rhS l).2 ≠ 1 := by
 unfold rhS
 split
 ·have hsz := ZbB hr
  have hln := Zb3 l
  have h := Zej ((Zg l).drop 1) 0 ((Zm 32 (bytesOf ((Zg l).getD 0 ByteArray.empty))).getD 0 ByteArray.empty, (Zm 32 (bytesOf ((Zg l).getD 0 ByteArray.empty))).getD 1 ByteArray.empty, [], ⟨#[]⟩, ⟨#[]⟩, false, 0, false, false)
   ⟨Nat.le_refl 0, fun x hx => absurd hx (by simp [Z3]), by simp only [ZbR]; decide, Int.le_refl 0⟩ (fun x hx => by have := hsz x (List.mem_of_mem_drop hx); omega)
  rw [List.length_drop] at h
  simp only []
  generalize Z9 ((Zg l).drop 1) ((Zm 32 (bytesOf ((Zg l).getD 0 ByteArray.empty))).getD 0 ByteArray.empty, (Zm 32 (bytesOf ((Zg l).getD 0 ByteArray.empty))).getD 1 ByteArray.empty, [], ⟨#[]⟩, ⟨#[]⟩, false, 0, false, false) = st at h
  refine ⟨⟨by have := h.1; omega, h.2⟩, ?_, ?_⟩
  ·unfold Zaf
   split
   ·intro h; exact absurd h (by decide)
   ·split
    ·intro h; exact absurd h (by decide)
    ·split
     ·intro h; exact absurd h (by decide)
     ·split
      ·intro h; exact absurd h (by decide)
      ·intro _; exact ⟨by omega, by omega⟩
  ·unfold Zaf
   repeat' split
   all_goals decide
 ·exact ⟨⟨Nat.zero_le _, fun x hx => absurd hx (by simp [Z3, stZ]), by simp only [ZbR, stZ]; decide, Int.le_refl 0⟩, fun h => absurd h (by decide), by decide⟩
theorem ZcD (l : List Int) (hl : l.length ≤ 1048575) (hr : ∀ x ∈ l, 0 ≤ x ∧ x < 256) : Ev (fun k => impl_GetReq.f k l) (Zw l) := by
 unfold impl_GetReq.f Zw
 rw [ZaG l hr]
 simp only [Option.bind_some]
 have hb := ZaV (l.take 400) 0
 have h4 := Zc6 (l.take 400) 0
 rw [List.length_take] at hb h4
 change Zc l ≤ _ ∧ _ at hb
 change 0 ≤ Zc l → _ at h4
 by_cases q0 : Zc l < 0
 ·rw [if_pos q0]; simp only [if_pos q0]
  by_cases q1 : (l.length : Int) > 400
  ·rw [if_pos (show 400 < l.length by omega)]; simp only [if_pos q1]; exact Ev.now _
  ·rw [if_neg (show ¬ 400 < l.length by omega)]; simp only [if_neg q1]; exact Ev.now _
 rw [if_neg q0]; simp only [if_neg q0]
 have h44 : (4 : Int) ≤ Zc l := by have := (h4 (by omega)).1; change (0 : Int) + 4 ≤ Zc l at this; omega
 obtain ⟨e, he⟩ : ∃ e : Nat, Zc l = (e : Int) := ⟨(Zc l).toNat, by omega⟩
 rw [he] at hb h44
 simp only [he, Int.toNat_natCast]
 clear h4 q0
 have hw : wrap64 ((e : Int) - 4) = ((e - 4 : Nat) : Int) := by rw [wrap_id (by omega) (by omega)]; omega
 simp only [hw, if_pos (show (0 : Int) ≤ ((e - 4 : Nat) : Int) by omega), if_pos (show ((e - 4 : Nat) : Int) ≤ (l.length : Int) by omega), Int.toNat_natCast]
 have hrt : ∀ x ∈ l.take (e - 4), 0 ≤ x ∧ x < 256 := fun x hx => hr x (List.mem_of_mem_take hx)
 have hlt : (l.take (e - 4)).length ≤ 1048575 := by rw [List.length_take]; omega
 obtain ⟨hP, hP2, _⟩ := Zfd (l.take (e - 4)) hlt hrt
 have hrh := Zdw (l.take (e - 4)) (by omega) hrt
 generalize rhS (l.take (e - 4)) = r at hP hP2 hrh
 obtain ⟨⟨m, p, hs, b, co, ch, sz, td, bad⟩, code⟩ := r
 have hrh' : Ev (fun k => impl_readHead.f k (strOfNums (l.take (e - 4)))) (m, p, hs, b, co, ch, sz, td, bad, code) := hrh
 refine Ev.bind hrh' ?_
 have hs1 : (0 : Int) ≤ sz := hP.2.2.2
 have hs3 : code = 0 → sz ≤ 200 := fun h => (hP2 h).1
 clear hP hP2 hrh hrh'
 show Ev _ (ZB l e m p hs ch sz code)
 unfold ZB
 by_cases q1 : code = 0
 ·simp only [if_neg (show ¬ code ≠ 0 from fun h => h q1), if_pos q1]
  have hs2 := hs3 q1
  clear hs3
  cases ch with
  | true =>
   simp only [if_true]
   refine Ev.bind (Zcn l (by omega) hr e (by omega) (l.length + 1) (by rw [List.length_drop]; omega)) ?_
   generalize chR (l.length + 1) (l.drop e) [] = c
   obtain ⟨c0, c1, c2⟩ := c
   by_cases q2 : c2 = 0
   ·subst q2
    rw [Zc3]
    simp only [if_true]; exact Ev.now _
   ·rw [ZaN _ _ _ q2]
    simp only [if_neg q2]; exact Ev.now _
  | false =>
   simp only [Bool.false_eq_true, if_false]
   obtain ⟨z, hz⟩ : ∃ z : Nat, sz = (z : Int) := ⟨sz.toNat, by omega⟩
   subst hz
   have hw2 : wrap64 ((e : Int) + (z : Int)) = ((e + z : Nat) : Int) := by rw [wrap_id (by omega) (by omega)]; rfl
   simp only [hw2, Int.toNat_natCast]
   clear hw2 hs1 hs2 hw hb h44 hlt hrt hl hr he q1
   by_cases q2 : l.length < e + z
   ·rw [if_pos q2]
    simp only [if_pos (show ((e + z : Nat) : Int) > (l.length : Int) by omega), if_neg (show ¬ (1 : Int) = 0 by decide)]
    exact Ev.now _
   ·rw [if_neg q2]
    simp only [if_neg (show ¬ ((e + z : Nat) : Int) > (l.length : Int) by omega), if_pos (show (0 : Int) ≤ (e : Int) by omega), if_pos (show (e : Int) ≤ ((e + z : Nat) : Int) by omega), if_pos (show ((e + z : Nat) : Int) ≤ (l.length : Int) by omega)]
    have ed : (l.take (e + z)).drop e = (l.drop e).take z := by rw [List.drop_take, Nat.add_sub_cancel_left]
    rw [ed]
    exact Ev.now _
 ·simp only [if_pos (show code ≠ 0 from q1), if_neg q1]
  exact Ev.now _
def Zdg (r : Zdf) : Int := r.2.2.2.2.1
def Zr (r : Zdf) : Int := r.2.2.2.2.2
theorem Zel (c : Int) : Zr (Zcp c) = c := rfl
theorem ZcE : ∀ (t y : List Int) (i : Nat), (0 ≤ Zk i t → Zk i (t ++ y) = Zk i t) ∧ (Zk i t < 0 → 0 ≤ Zk i (t ++ y) → ((i + t.length : Nat) : Int) < Zk i (t ++ y))
 | [], y, i => ⟨fun h => absurd h (by simp [Zk]), fun _ h => by have := (Zc6 y i h).1; simp only [List.nil_append, List.length_nil] at this ⊢; omega⟩
 | c :: r, y, i => by
  obtain ⟨h1, h2⟩ := ZcE r y (i + 1)
  rw [List.cons_append, Zk, Zk]
  by_cases q : (c :: r).take 4 = [13, 10, 13, 10]
  ·have hl : 4 ≤ (c :: r).length := by have := congrArg List.length q; rw [List.length_take] at this; simp at this ⊢; omega
   have q' : (c :: (r ++ y)).take 4 = [13, 10, 13, 10] := by rw [← List.cons_append, List.take_append_of_le_length hl]; exact q
   rw [if_pos q, if_pos q']
   exact ⟨fun _ => rfl, fun h => by omega⟩
  ·rw [if_neg q]
   by_cases q' : (c :: (r ++ y)).take 4 = [13, 10, 13, 10]
   ·rw [if_pos q']
    have hl : ¬ 4 ≤ (c :: r).length := fun hl => q (by rw [← List.cons_append, List.take_append_of_le_length hl] at q'; exact q')
    refine ⟨fun h => ?_, fun _ _ => by omega⟩
    rw [Zav r (i + 1) (by simp at hl; omega)] at h
    exact absurd h (by decide)
   ·rw [if_neg q']
    refine ⟨h1, fun a b => ?_⟩
    have := h2 a b
    rw [List.length_cons]; omega
theorem Zdx (p y : List Int) : (0 ≤ Zc p → Zc (p ++ y) = Zc p) ∧ (Zc p < 0 → 0 ≤ Zc (p ++ y) → (p.length : Int) < Zc (p ++ y)) := by
 unfold Zc
 rw [List.take_append]
 obtain ⟨h1, h2⟩ := ZcE (p.take 400) (y.take (400 - p.length)) 0
 refine ⟨h1, fun a b => ?_⟩
 have := h2 a b
 rw [List.length_take] at this
 by_cases q : p.length < 400
 ·omega
 ·rw [show 400 - p.length = 0 by omega, List.take_zero, List.append_nil] at b
  omega
theorem ZeE (l : List Int) (e : Nat) (he : e ≤ l.length) (m p : BA) (hs : List S113) (ch : Bool) (sz code : Int) : Zr (ZB l e m p hs ch sz code) = 0 → (e : Int) ≤ Zdg (ZB l e m p hs ch sz code) := by
 unfold ZB
 split
 ·intro h; exact absurd h (by assumption)
 ·split
  ·split
   ·rename_i h0
    have h1 := ZaA _ _ _ h0
    rw [List.length_drop] at h1
    intro _
    show (e : Int) ≤ (l.length : Int) - _
    omega
   ·intro h; exact absurd h (by assumption)
  ·split
   ·intro h; exact absurd (show (1 : Int) = 0 from h) (by decide)
   ·intro _
    show (e : Int) ≤ ((e + sz.toNat : Nat) : Int)
    omega
theorem ZeF (p y : List Int) (e : Nat) (he : e ≤ p.length) (m q : BA) (hs : List S113) (ch : Bool) (sz code : Int) :
  (Zr (ZB p e m q hs ch sz code) = 0 → ZB (p ++ y) e m q hs ch sz code = ZB p e m q hs ch sz code) ∧
  (Zr (ZB p e m q hs ch sz code) ≠ 0 → Zr (ZB p e m q hs ch sz code) ≠ 1 → Zr (ZB (p ++ y) e m q hs ch sz code) = Zr (ZB p e m q hs ch sz code)) ∧
  (Zr (ZB p e m q hs ch sz code) = 1 → Zr (ZB (p ++ y) e m q hs ch sz code) = 0 → (p.length : Int) < Zdg (ZB (p ++ y) e m q hs ch sz code)) := by
 have ed : (p ++ y).drop e = p.drop e ++ y := List.drop_append_of_le_length he
 unfold ZB
 by_cases c0 : code ≠ 0
 ·rw [if_pos c0, if_pos c0]
  exact ⟨fun _ => rfl, fun _ _ => rfl, fun _ h => absurd h c0⟩
 rw [if_neg c0, if_neg c0]
 by_cases c1 : ch = true
 ·rw [if_pos c1, if_pos c1, ed]
  obtain ⟨k0, kc, k1⟩ := ZdF (p.length + 1) ((p ++ y).length + 1) (p.drop e) [] y (by rw [List.length_drop]; omega) (by rw [List.length_append, List.length_append, List.length_drop]; omega)
  by_cases c2 : (chR (p.length + 1) (p.drop e) []).2.2 = 0
  ·rw [if_pos c2, k0 c2]
   simp only [if_true]
   refine ⟨fun _ => ?_, fun h => absurd rfl h, fun h => absurd (show (0 : Int) = 1 from h) (by decide)⟩
   have hle := ZaA _ _ _ c2
   simp only [Prod.mk.injEq, true_and, and_true, List.length_append]
   omega
  ·rw [if_neg c2]
   refine ⟨fun h => absurd h c2, fun a b => ?_, fun a => ?_⟩
   ·have h := kc c2 b
    rw [if_neg (by rw [h]; exact c2), h]
   ·split
    ·rename_i h0
     have h := k1 a h0
     intro _
     rw [List.length_append] at h ⊢
     show (p.length : Int) < ((p.length + y.length : Nat) : Int) - _
     omega
    ·intro h; exact absurd h (by assumption)
 ·rw [if_neg c1, if_neg c1]
  by_cases c2 : p.length < e + sz.toNat
  ·rw [if_pos c2]
   refine ⟨fun h => absurd (show (1 : Int) = 0 from h) (by decide), fun _ h => absurd rfl h, fun _ => ?_⟩
   split
   ·intro h; exact absurd (show (1 : Int) = 0 from h) (by decide)
   ·intro _
    show (p.length : Int) < ((e + sz.toNat : Nat) : Int)
    omega
  ·rw [if_neg c2, if_neg (by rw [List.length_append]; omega), ed, List.take_append_of_le_length (by rw [List.length_drop]; omega)]
   exact ⟨fun _ => rfl, fun _ _ => rfl, fun h => absurd (show (0 : Int) = 1 from h) (by decide)⟩
theorem Za0 (l : List Int) : Zc l ≤ l.length := by
 have := (ZaV (l.take 400) 0).1
 rw [List.length_take] at this
 unfold Zc; omega
theorem ZeG (p y : List Int) :
  (Zr (Zw p) = 0 → Zw (p ++ y) = Zw p) ∧ (Zr (Zw p) ≠ 0 → Zr (Zw p) ≠ 1 → Zr (Zw (p ++ y)) = Zr (Zw p)) ∧
  (Zr (Zw p) = 1 → Zr (Zw (p ++ y)) = 0 → (p.length : Int) < Zdg (Zw (p ++ y))) := by
 obtain ⟨h1, h2⟩ := Zdx p y
 unfold Zw
 by_cases c0 : Zc p < 0
 ·rw [if_pos c0]
  by_cases c1 : 400 < p.length
  ·have c2 : Zc (p ++ y) < 0 := by
    have e : (p ++ y).take 400 = p.take 400 := List.take_append_of_le_length (by omega)
    unfold Zc at c0 ⊢
    rw [e]; exact c0
   rw [if_pos c1, if_pos c2, if_pos (by rw [List.length_append]; omega)]
   exact ⟨fun _ => rfl, fun _ _ => rfl, fun h => absurd (show (431 : Int) = 1 from h) (by decide)⟩
  ·rw [if_neg c1]
   refine ⟨fun h => absurd (show (1 : Int) = 0 from h) (by decide), fun _ h => absurd rfl h, fun _ => ?_⟩
   split
   ·split
    ·intro h; exact absurd (show (431 : Int) = 0 from h) (by decide)
    ·intro h; exact absurd (show (1 : Int) = 0 from h) (by decide)
   ·intro h
    have hle := Za0 (p ++ y)
    have h3 := ZeE (p ++ y) (Zc (p ++ y)).toNat (by omega) _ _ _ _ _ _ h
    have h4 := h2 c0 (by omega)
    omega
 ·rw [if_neg c0]
  have e := h1 (by omega)
  have hle := Za0 p
  rw [e, if_neg c0]
  have et : (p ++ y).take ((Zc p).toNat - 4) = p.take ((Zc p).toNat - 4) := List.take_append_of_le_length (by omega)
  rw [et]
  exact ZeF p y (Zc p).toNat (by omega) _ _ _ _ _ _
def Zao (h : S113) : List Int := bytesOf h.f0 ++ 58 :: 32 :: bytesOf h.f1
theorem ZcF : ∀ (l : List S113) (x : BA), bytesOf (htL x l) = bytesOf x ++ l.flatMap (fun h => Zao h ++ [13, 10])
 | [], x => by simp [htL]
 | h :: r, x => by
  rw [htL, ZcF r]
  unfold Zaw Zao
  simp only [bytesOf_append, List.flatMap_cons, List.append_assoc]
  rfl
theorem ZdJ : ∀ (l : List Int) (i : Nat), snB i l = true → ∀ x ∈ l, (97 ≤ x ∧ x ≤ 122) ∨ (48 ≤ x ∧ x ≤ 57) ∨ x = 45
 | [], _, _, x, hx => by simp at hx
 | c :: r, i, h, x, hx => by
  rw [snB] at h
  simp only [Bool.and_eq_true] at h
  rcases List.mem_cons.1 hx with e | e
  ·subst e
   have h1 := h.1
   unfold snC Zba Zad at h1
   simp only [Bool.or_eq_true, Bool.and_eq_true, decide_eq_true_eq] at h1
   omega
  ·exact ZdJ r (i + 1) h.2 x e
theorem Zbm {h : S113} (q : Zz h = true) : (∀ x ∈ bytesOf h.f0, (97 ≤ x ∧ x ≤ 122) ∨ (48 ≤ x ∧ x ≤ 57) ∨ x = 45) ∧ (∀ x ∈ bytesOf h.f1, 32 ≤ x ∧ x ≤ 126) ∧ h.f0.size ≤ 20 ∧ h.f1.size ≤ 60 := by
 unfold Zz Zab ZY Z8 at q
 simp only [Bool.and_eq_true, decide_eq_true_eq] at q
 obtain ⟨⟨q1, q2⟩, ⟨q3, q4, _⟩, _⟩ := q
 refine ⟨ZdJ _ _ q1, fun x hx => ?_, by omega, by omega⟩
 have := (List.all_eq_true.1 q4) x hx
 unfold ZO at this
 simp only [Bool.and_eq_true, decide_eq_true_eq] at this
 exact this
def Zi (m p : BA) (l : List S113) (more : BA) : BA := ((((((m ++ (⟨#[32]⟩ : BA)) ++ p) ++ (⟨#[32, 72, 84, 84, 80, 47, 49, 46, 49]⟩ : BA)) ++ (⟨#[13, 10]⟩ : BA)) ++ Zak l) ++ more) ++ (⟨#[13, 10]⟩ : BA)
noncomputable def putV (m p : BA) (l : List S113) (b more : BA) (body : List Int) : List Int := if Z6 m p l b = true then (if ((Zi m p l more).size : Int) > 400 then [] else bytesOf (Zi m p l more) ++ body) else []
theorem Z4 : (⟨#[32]⟩ : BA).size = 1 := rfl
theorem Zar : (⟨#[32, 72, 84, 84, 80, 47, 49, 46, 49]⟩ : BA).size = 9 := rfl
theorem Zas (m p : BA) (l : List S113) (b more body : BA) (hm : m.size ≤ 1048576) (hp : p.size ≤ 1048576) (hl : l.length ≤ 1048576) (hs : ∀ x ∈ l, x.f0.size ≤ 1048576 ∧ x.f1.size ≤ 1048576) (hmo : more.size ≤ 1048576) (hb : body.size ≤ 1000000000) : Ev (fun k => spec_l3Put.f k m p l b more body) (putV m p l b more (bytesOf body)) := by
 have hh := Za8 l hl hs
 unfold spec_l3Put.f putV
 refine ev_ite (fun _ => ?_) (fun q => absurd (by omega) q)
 refine ev_ite (fun _ => ?_) (fun q => absurd (by simp only [ByteArray.size_append, Z4]; omega) q)
 refine ev_ite (fun _ => ?_) (fun q => absurd (by simp only [ByteArray.size_append, Z4]; omega) q)
 refine ev_ite (fun _ => ?_) (fun q => absurd (by simp only [ByteArray.size_append, Z4, Zar]; omega) q)
 refine Ev.bind (Za9 l hl hs) ?_
 refine ev_ite (fun _ => ?_) (fun q => absurd (by simp only [ByteArray.size_append, Z4, Zar, Zaq]; omega) q)
 refine ev_ite (fun _ => ?_) (fun q => absurd (by simp only [ByteArray.size_append, Z4, Zar, Zaq]; omega) q)
 refine ev_ite (fun _ => ?_) (fun q => absurd (by simp only [ByteArray.size_append, Z4, Zar, Zaq]; omega) q)
 refine Ev.bind (ZcQ m p l b hm hp (by omega) hs) (ev_iteB (fun q => ?_) (fun q => ?_))
 ·rw [if_pos q]
  refine ev_ite (fun q1 => ?_) (fun q1 => ?_)
  ·rw [if_pos (show ((Zi m p l more).size : Int) > 400 from q1)]; exact Ev.now _
  ·rw [if_neg (show ¬ ((Zi m p l more).size : Int) > 400 from q1)]
   refine ev_ite (fun _ => ?_) (fun q => absurd (by simp only [ByteArray.size_append, Z4, Zar, Zaq]; omega) q)
   refine ev_ite (fun _ => ?_) (fun q => absurd (by simp only [ByteArray.size_append, Z4, Zar, Zaq]; omega) q)
   rw [bytesOf_append]
   exact Ev.now _
 ·rw [if_neg (by rw [q]; simp)]; exact Ev.now _
theorem Zal (m p : BA) (l : List S113) (b more : BA) (body : List Int) (hm : m.size ≤ 1048576) (hp : p.size ≤ 1048576) (hl : l.length ≤ 1048576) (hs : ∀ x ∈ l, x.f0.size ≤ 1048576 ∧ x.f1.size ≤ 1048576) (hmo : more.size ≤ 1048576) (hb : body.length ≤ 1099511627776) : Ev (fun k => impl_putReq.f k m p l b more body) (putV m p l b more body) := by
 have hh := Za8 l hl hs
 unfold impl_putReq.f putV
 refine ev_ite (fun _ => ?_) (fun q => absurd (by omega) q)
 refine ev_ite (fun _ => ?_) (fun q => absurd (by simp only [ByteArray.size_append, Z4]; omega) q)
 refine ev_ite (fun _ => ?_) (fun q => absurd (by simp only [ByteArray.size_append, Z4]; omega) q)
 refine ev_ite (fun _ => ?_) (fun q => absurd (by simp only [ByteArray.size_append, Z4, Zar]; omega) q)
 refine Ev.bind (ZbP l hl hs) ?_
 refine ev_ite (fun _ => ?_) (fun q => absurd (by simp only [ByteArray.size_append, Z4, Zar, Zaq]; omega) q)
 refine ev_ite (fun _ => ?_) (fun q => absurd (by simp only [ByteArray.size_append, Z4, Zar, Zaq]; omega) q)
 refine ev_ite (fun _ => ?_) (fun q => absurd (by simp only [ByteArray.size_append, Z4, Zar, Zaq]; omega) q)
 refine Ev.bind (ZcP m p l b hm hp (by omega) hs) (ev_iteB (fun q => ?_) (fun q => ?_))
 ·rw [if_pos q]
  refine ev_ite (fun q1 => ?_) (fun q1 => ?_)
  ·rw [if_pos (show ((Zi m p l more).size : Int) > 400 from q1)]; exact Ev.now _
  ·rw [if_neg (show ¬ ((Zi m p l more).size : Int) > 400 from q1)]
   refine ev_ite (fun _ => ?_) (fun q => absurd (by simp only [ByteArray.size_append, Z4, Zar, Zaq]; omega) q)
   simp only [Option.bind_some]
   refine ev_ite (fun _ => Ev.now _) (fun q => absurd (by rw [← size_len]; simp only [ByteArray.size_append, Z4, Zar, Zaq]; omega) q)
 ·rw [if_neg (by rw [q]; simp)]; exact Ev.now _
theorem ZeH (m p : BA) (l : List S113) (b more : BA) (body : List Int) : (putV m p l b more body).length ≤ 400 + body.length := by
 unfold putV
 split
 ·split
  ·simp
  ·rename_i h
   rw [List.length_append, ← size_len]; omega
 ·simp
noncomputable def putReqV (m p : BA) (l : List S113) (b : BA) : List Int := putV m p l b (if bytesOf b = [] then (⟨#[]⟩ : BA) else Zac b) (bytesOf b)
theorem Zcq (m p : BA) (l : List S113) (b : BA) (hm : m.size ≤ 1048576) (hp : p.size ≤ 1048576) (hl : l.length ≤ 1048576) (hs : ∀ x ∈ l, x.f0.size ≤ 1048576 ∧ x.f1.size ≤ 1048576) (hb : b.size ≤ 1048576) : Ev (fun k => spec_PutReq.f k m p l b) (putReqV m p l b) := by
 unfold spec_PutReq.f putReqV
 refine ev_ite (fun q => ?_) (fun q => ?_)
 ·have q' : bytesOf b = [] := (ZC b []).1 q
  rw [if_pos q', q']
  exact Ev.bind (Zas m p l b (⟨#[]⟩ : BA) (⟨#[]⟩ : BA) hm hp hl hs (by decide) (by decide)) (Ev.now _)
 ·have q' : ¬ bytesOf b = [] := fun h => q ((ZC b []).2 h)
  have hn := ZbQ b.size hb
  rw [if_neg q']
  have e := Zca (b.size : Int) (by omega)
  rw [Int.toNat_natCast] at e
  refine Ev.bind e ?_
  refine ev_ite (fun _ => ?_) (fun q => absurd (by omega) q)
  refine ev_ite (fun _ => ?_) (fun q => absurd (by simp only [ByteArray.size_append, Zd1]; omega) q)
  exact Ev.bind (Zas m p l b (Zac b) b hm hp hl hs (by unfold Zac; simp only [ByteArray.size_append, Zd1, Zaq]; omega) (by omega)) (Ev.now _)
theorem Zcr (m p : BA) (l : List S113) (b : BA) (hm : m.size ≤ 1048576) (hp : p.size ≤ 1048576) (hl : l.length ≤ 1048576) (hs : ∀ x ∈ l, x.f0.size ≤ 1048576 ∧ x.f1.size ≤ 1048576) (hb : b.size ≤ 1048576) : Ev (fun k => impl_PutReq.f k m p l b) (putReqV m p l b) := by
 have hbl : (bytesOf b).length ≤ 1099511627776 := by rw [← size_len]; omega
 unfold impl_PutReq.f putReqV
 refine ev_ite (fun q => ?_) (fun q => ?_)
 ·have q' : bytesOf b = [] := (ZC b []).1 q
  rw [if_pos q']
  refine ev_ite (fun _ => ?_) (fun q => absurd (by omega) q)
  exact Ev.bind (Zal m p l b (⟨#[]⟩ : BA) (bytesOf b) hm hp hl hs (by decide) hbl) (Ev.now _)
 ·have q' : ¬ bytesOf b = [] := fun h => q ((ZC b []).2 h)
  have hn := ZbQ b.size hb
  rw [if_neg q']
  have e2 := Zbk b hb
  simp only [e2, Option.bind_some]
  refine ev_ite (fun _ => ?_) (fun q => absurd (by omega) q)
  exact Ev.bind (Zal m p l b (Zac b) (bytesOf b) hm hp hl hs (by unfold Zac; simp only [ByteArray.size_append, Zd1, Zaq]; omega) hbl) (Ev.now _)
def Zp (d : Nat) : Int := if d < 10 then 48 + (d : Int) else 87 + (d : Int)
def Zl (u : Nat) : List Int := if h : u < 16 then [Zp u] else Zl (u / 16) ++ [Zp (u % 16)]
theorem ZW (u : Nat) (h : 15 < u) : Zl u = Zl (u / 16) ++ [Zp (u % 16)] := by rw [Zl, dif_neg (by omega)]
theorem ZF (u : Nat) (h : u ≤ 15) : Zl u = [Zp u] := by rw [Zl, dif_pos (by omega)]
theorem Zap (d : Nat) (h : d < 16) : 48 ≤ Zp d ∧ Zp d ≤ 102 := by unfold Zp; split <;> omega
theorem Za1 (u : Nat) : ∀ x ∈ Zl u, 0 ≤ x ∧ x < 256 := by
 induction u using Nat.strongRecOn with
 | _ u ih =>
  intro x h
  rcases Nat.lt_or_ge 15 u with h9 | h9
  ·rw [ZW u h9, List.mem_append] at h
   rcases h with h | h
   ·exact ih (u / 16) (by omega) x h
   ·simp only [List.mem_cons, List.not_mem_nil, or_false] at h
    have := Zap (u % 16) (Nat.mod_lt _ (by decide)); omega
  ·rw [ZF u h9] at h
   simp only [List.mem_cons, List.not_mem_nil, or_false] at h
   have := Zap u (by omega); omega
theorem ZeV (u : Nat) (hu : u ≤ 9223372036854775807) : wrap64 (Int.tdiv (u : Int) 16) = ((u / 16 : Nat) : Int) := by
 rw [Int.tdiv_eq_ediv_of_nonneg (by omega), wrap_id (by omega) (by omega)]
 omega
theorem ZdK (u : Nat) (hu : u ≤ 9223372036854775807) : Int.tmod (u : Int) 16 = ((u % 16 : Nat) : Int) := by
 rw [Int.tmod_eq_emod_of_nonneg (by omega)]; omega
theorem ZaD : ∀ (k u : Nat), u < 16 ^ (k + 1) → (Zl u).length ≤ k + 1
 | 0, u, h => by rw [ZF u (by simpa using Nat.le_of_lt_succ h)]; simp
 | k + 1, u, h => by
  rcases Nat.lt_or_ge 15 u with h9 | h9
  ·rw [ZW u h9, List.length_append]
   have := ZaD k (u / 16) (by rw [Nat.pow_succ] at h; omega)
   simp; omega
  ·rw [ZF u h9]; simp
theorem Zcb (d : Nat) (h : d < 16) : ((hexb d).toNat : Int) = Zp d := by
 unfold hexb Zp
 split
 ·rw [show (UInt8.ofNat (48 + d)).toNat = 48 + d from by simp; omega]; omega
 ·rw [show (UInt8.ofNat (87 + d)).toNat = 87 + d from by simp; omega]; omega
theorem Ze5 (u : Nat) : (hexB u).map (fun b => (b.toNat : Int)) = Zl u := by
 induction u using Nat.strongRecOn with
 | _ u ih =>
  rw [hexB, Zl]
  split
  ·simp only [List.map_cons, List.map_nil, Zcb u (by assumption)]
  ·rw [List.map_append, ih (u / 16) (by omega)]
   simp only [List.map_cons, List.map_nil, Zcb _ (Nat.mod_lt u (by decide : 0 < 16))]
theorem Ze6 (u : Nat) : (⟨(hexB u).toArray⟩ : BA) = strOfNums (Zl u) := by
 apply bytesOf_inj
 rw [bytesOf_strOfNums _ (Za1 u), bytesOf_mk, ← Ze5]
theorem ZcG (d : Nat) (h : d < 16) : spec_l1HexDigit.f ((d : Nat) : Int) = some (Zp d) := by
 unfold spec_l1HexDigit.f Zp
 by_cases h9 : d < 10
 ·rw [if_pos (by omega), if_pos h9, wrap_id (by omega) (by omega)]; congr 1; omega
 ·rw [if_neg (by omega), if_neg h9, wrap_id (x := 97 + (d : Int)) (by omega) (by omega), wrap_id (by omega) (by omega)]; congr 1; omega
theorem ZbD : ∀ (n u : Nat) (x : BA), u < 16 ^ (n + 1) → u ≤ 9223372036854775807 → x.size ≤ 1000 - n → n ≤ 20 → bytesOf x = (Zl u).drop ((Zl u).length - 1) ++ (bytesOf x).drop 1 → Ev (fun k => spec_Hex.l0 k (u : Int) x) (strOfNums (Zl u ++ (bytesOf x).drop 1))
 | 0, u, x, h, hu, hx, hn, hb => by
  have h9 : u ≤ 15 := by omega
  apply ev_succ
  simp only [spec_Hex.l0, if_neg (show ¬ (u : Int) > 15 by omega)]
  rw [ZF u h9] at hb ⊢
  simp only [List.length_cons, List.length_nil, List.drop_zero, Nat.zero_add, Nat.sub_self] at hb
  rw [← hb, strOfNums_bytesOf]
  exact Ev.now _
 | n + 1, u, x, h, hu, hx, hn, hb => by
  apply ev_succ
  rcases Nat.lt_or_ge 15 u with h9 | h9
  ·have hd := Zap (u / 16 % 16) (Nat.mod_lt _ (by decide))
   have hy : bytesOf (strOfNums [Zp (u / 16 % 16)]) = [Zp (u / 16 % 16)] := bytesOf_strOfNums _ (by intro z hz; simp at hz; omega)
   have hs1 : (strOfNums [Zp (u / 16 % 16)]).size = 1 := by rw [size_len, hy]; rfl
   simp only [spec_Hex.l0, if_pos (show (u : Int) > 15 by omega), ZeV u hu, ZdK (u / 16) (by omega), ZcG _ (Nat.mod_lt _ (by decide : 0 < 16)), Option.bind_some, hs1, if_pos (show 1 + x.size ≤ 9223372036854775807 by omega)]
   have e : bytesOf (strOfNums [Zp (u / 16 % 16)] ++ x) = Zp (u / 16 % 16) :: bytesOf x := by rw [bytesOf_append, hy]; rfl
   have ih := ZbD n (u / 16) (strOfNums [Zp (u / 16 % 16)] ++ x) (by rw [Nat.pow_succ] at h; omega) (by omega) (by rw [ByteArray.size_append, hs1]; omega) (by omega) (by
    rw [e]
    simp only [List.drop_succ_cons, List.drop_zero]
    rcases Nat.lt_or_ge 15 (u / 16) with h10 | h10
    ·rw [ZW (u / 16) h10]
     simp
    ·rw [ZF (u / 16) h10, Nat.mod_eq_of_lt (by omega)]
     simp)
   rw [e] at ih
   simp only [List.drop_succ_cons, List.drop_zero] at ih
   rw [ZW u h9] at hb ⊢
   simp only [List.length_append, List.length_cons, List.length_nil, Nat.zero_add, Nat.add_sub_cancel, List.drop_left] at hb
   rw [List.append_assoc, ← hb]
   exact ih
  ·simp only [spec_Hex.l0, if_neg (show ¬ (u : Int) > 15 by omega)]
   rw [ZF u h9] at hb ⊢
   simp only [List.length_cons, List.length_nil, List.drop_zero, Nat.zero_add, Nat.sub_self] at hb
   rw [← hb, strOfNums_bytesOf]
   exact Ev.now _
theorem ZbE (u : Nat) (hu : u ≤ 9223372036854775807) : Ev (fun k => spec_Hex.j0 k (u : Int)) (strOfNums (Zl u)) := by
 apply ev_succ
 simp only [spec_Hex.j0, ZdK u hu, ZcG _ (Nat.mod_lt _ (by decide : 0 < 16)), Option.bind_some]
 have hd := Zap (u % 16) (Nat.mod_lt _ (by decide))
 have hy : bytesOf (strOfNums [Zp (u % 16)]) = [Zp (u % 16)] := bytesOf_strOfNums _ (by intro z hz; simp at hz; omega)
 have hs1 : (strOfNums [Zp (u % 16)]).size = 1 := by rw [size_len, hy]; rfl
 have := ZbD 18 u (strOfNums [Zp (u % 16)]) (by omega) hu (by omega) (by omega) (by
  rw [hy]
  rcases Nat.lt_or_ge 15 u with h9 | h9
  ·rw [ZW u h9]; simp
  ·rw [ZF u h9, Nat.mod_eq_of_lt (by omega)]; simp)
 rw [hy] at this
 simpa using this
theorem Zdy (n : Int) (hn : n ≤ 9223372036854775807) : Ev (fun k => spec_Hex.f k n) (strOfNums (Zl n.toNat)) := by
 unfold spec_Hex.f
 refine ev_ite (fun h => ?_) (fun h => ?_)
 ·rw [show n.toNat = 0 from by omega]
  exact ZbE 0 (by omega)
 ·have := ZbE n.toNat (by omega)
  rwa [Int.toNat_of_nonneg (by omega)] at this
theorem Zdz (n : Int) (hn : n ≤ 9223372036854775807) : impl_Hex.f n = some (strOfNums (Zl n.toNat)) := by
 have e : mx n 0 = ((n.toNat : Nat) : Int) := by unfold mx; split <;> omega
 unfold impl_Hex.f
 rw [e]
 unfold strconv_FormatInt.f
 rw [if_pos ⟨by omega, by omega, rfl⟩, Option.bind_some, Int.toNat_natCast, Ze6]
def Zs (b : List Int) : List Int := if b = [] then [] else Zl b.length ++ [13, 10] ++ b ++ [13, 10]
def Ze : List Int → List Int → List Int
 | b, [] => Zs b ++ [48, 13, 10, 13, 10]
 | b, n :: r => if n < 1 then Ze b r else Zs (b.take n.toNat) ++ Ze (b.drop n.toNat) r
theorem Zdh {l : List Int} {p : Nat} {a : Int} {t : List Int} (h : l.drop p = a :: t) : rd l (p : Int) = a ∧ p < l.length ∧ l.drop (p + 1) = t := by
 have hp : p < l.length := by
  rcases Nat.lt_or_ge p l.length with h' | h'
  ·exact h'
  ·rw [List.drop_eq_nil_of_le h'] at h; cases h
 rw [List.drop_eq_getElem_cons hp] at h
 obtain ⟨h1, h2⟩ := List.cons.inj h
 refine ⟨?_, hp, h2⟩
 rw [rd, Int.toNat_natCast, List.getD_eq_getElem?_getD, List.getElem?_eq_getElem hp, Option.getD_some, h1]
theorem Zax : bytesOf (⟨#[13, 10]⟩ : BA) = [13, 10] := rfl
theorem Zcc : bytesOf (⟨#[48]⟩ : BA) = [48] := rfl
theorem Zay (b : List Int) (hb : b.length ≤ 1048576) : (Zs b).length ≤ b.length + 20 := by
 unfold Zs
 split
 ·simp
 ·have := ZaD 5 b.length (by omega)
  simp only [List.length_append, List.length_cons, List.length_nil]
  omega
theorem ZaK (s : BA) : s.toList = ([] : List UInt8) ↔ bytesOf s = [] := ZC s []
theorem ZX (s : BA) (j : Nat) : bytesOf (s.extract 0 j) = (bytesOf s).take j := by rw [bytesOf_extract, List.drop_zero]
theorem Z7 (s : BA) (j : Nat) : bytesOf (s.extract j s.size) = (bytesOf s).drop j := by
 rw [bytesOf_extract, List.take_of_length_le (by rw [bytesOf_length]; exact Nat.le_refl _)]
theorem ZaE (u : Nat) : bytesOf (strOfNums (Zl u)) = Zl u := bytesOf_strOfNums _ (Za1 u)
theorem ZbF (u : Nat) : (strOfNums (Zl u)).size = (Zl u).length := by rw [size_len, ZaE]
theorem ZaL (b : BA) (hb : b.size ≤ 1048576) : ∃ t, Ev (fun k => spec_l4Piece.f k b) t ∧ bytesOf t = Zs (bytesOf b) := by
 unfold spec_l4Piece.f
 by_cases q : b.toList = ([] : List UInt8)
 ·refine ⟨⟨#[]⟩, ?_, ?_⟩
  ·simp only [if_pos q]; exact Ev.now _
  ·rw [(ZaK b).1 q]; rfl
 ·have hl := bytesOf_length b
  have h6 := ZaD 5 b.size (by omega)
  have hs := ZbF b.size
  have c2 : (⟨#[13, 10]⟩ : BA).size = 2 := rfl
  refine ⟨((strOfNums (Zl b.size) ++ (⟨#[13, 10]⟩ : BA)) ++ b) ++ (⟨#[13, 10]⟩ : BA), ?_, ?_⟩
  ·simp only [if_neg q]
   have h := Zdy (b.size : Int) (by omega)
   rw [Int.toNat_natCast] at h
   refine Ev.bind h ?_
   simp only [ByteArray.size_append, c2]
   rw [if_pos (by omega), if_pos (by omega), if_pos (by omega)]
   exact Ev.now _
  ·rw [bytesOf_append, bytesOf_append, bytesOf_append, ZaE, Zax]
   unfold Zs
   rw [if_neg (fun e => q ((ZaK b).2 e)), hl]
theorem Zam (x1 : List Int) (h1 : x1.length ≤ 1048576) : ∀ (n i : Nat) (b s : BA), x1.length - i = n → i ≤ x1.length → s.size + b.size ≤ 20 * i + 1048576 → b.size ≤ 1048576 →
  ∃ t, Ev (fun k => spec_l4Text.l0 k b x1 s (i : Int)) t ∧ bytesOf t = bytesOf s ++ Ze (bytesOf b) (x1.drop i) ∧ t.size ≤ 100000000
 | 0, i, b, s, hn, hi, hs, hb => by
  obtain ⟨p, hp, hp1⟩ := ZaL b hb
  have hl := bytesOf_length b
  have hp2 := Zay (bytesOf b) (by omega)
  have hp3 : p.size ≤ b.size + 20 := by rw [size_len, hp1]; omega
  have c1 : (⟨#[48]⟩ : BA).size = 1 := rfl
  have c2 : (⟨#[13, 10]⟩ : BA).size = 2 := rfl
  refine ⟨(((s ++ p) ++ (⟨#[48]⟩ : BA)) ++ (⟨#[13, 10]⟩ : BA)) ++ (⟨#[13, 10]⟩ : BA), ?_, ?_, ?_⟩
  ·apply ev_succ
   simp only [spec_l4Text.l0, if_neg (show ¬ (i : Int) < x1.length by omega)]
   refine Ev.bind hp ?_
   simp only [ByteArray.size_append, c1, c2]
   rw [if_pos (by omega), if_pos (by omega), if_pos (by omega), if_pos (by omega)]
   exact Ev.now _
  ·rw [List.drop_eq_nil_of_le (by omega)]
   simp only [bytesOf_append, hp1, Zax, Zcc, Ze, List.append_assoc, List.cons_append, List.nil_append]
  ·simp only [ByteArray.size_append, c1, c2]; omega
 | n + 1, i, b, s, hn, hi, hs, hb => by
  have hil : i < x1.length := by omega
  obtain ⟨hr, _, _⟩ := Zdh (List.drop_eq_getElem_cons hil)
  have hw : wrap64 ((i : Int) + 1) = ((i + 1 : Nat) : Int) := by rw [wrap_id (by omega) (by omega)]; omega
  have hl := bytesOf_length b
  rw [List.drop_eq_getElem_cons hil]
  generalize x1[i] = m at hr
  by_cases q : m < 1
  ·obtain ⟨t, h2, h3⟩ := Zam x1 h1 n (i + 1) b s (by omega) (by omega) (by omega) hb
   refine ⟨t, ?_, by simpa only [Ze, if_pos q] using h3⟩
   apply ev_succ
   simp only [spec_l4Text.l0, if_pos (show (i : Int) < x1.length by omega), if_pos (show (0 : Int) ≤ (i : Int) by omega), hr, if_pos q, hw]
   exact h2
  ·simp only [Ze, if_neg q]
   have key : ∀ j : Nat, (bytesOf b).take j = (bytesOf b).take m.toNat → (bytesOf b).drop j = (bytesOf b).drop m.toNat → ∃ t, Ev (fun k => (spec_l4Piece.f k (b.extract 0 j)).bind fun t112 => (if s.size + t112.size ≤ 9223372036854775807 then (spec_l4Text.l0 k (b.extract j b.size) x1 (s ++ t112) (wrap64 ((i : Int) + 1))) else (none))) t ∧ bytesOf t = bytesOf s ++ (Zs ((bytesOf b).take m.toNat) ++ Ze ((bytesOf b).drop m.toNat) (x1.drop (i + 1))) ∧ t.size ≤ 100000000 := by
    intro j e1 e2
    have ht : (b.extract 0 j).size ≤ b.size := by rw [size_len, ZX, List.length_take]; omega
    have hd : (b.extract j b.size).size + (b.extract 0 j).size = b.size := by
     have e3 := bytesOf_length (b.extract 0 j)
     have e4 := bytesOf_length (b.extract j b.size)
     rw [ZX, List.length_take] at e3
     rw [Z7, List.length_drop] at e4
     omega
    obtain ⟨p, hp, hp1⟩ := ZaL (b.extract 0 j) (by omega)
    have hlt := bytesOf_length (b.extract 0 j)
    have hp2 := Zay (bytesOf (b.extract 0 j)) (by omega)
    have hp3 : p.size ≤ (b.extract 0 j).size + 20 := by rw [size_len, hp1]; omega
    obtain ⟨t, h2, h3, h4⟩ := Zam x1 h1 n (i + 1) (b.extract j b.size) (s ++ p) (by omega) (by omega) (by rw [ByteArray.size_append]; omega) (by omega)
    refine ⟨t, Ev.bind hp ?_, ?_, h4⟩
    ·simp only [if_pos (show s.size + p.size ≤ 9223372036854775807 by omega), hw]; exact h2
    ·rw [h3, bytesOf_append, hp1, ZX, Z7, e1, e2, List.append_assoc]
   by_cases q1 : m > (b.size : Int)
   ·obtain ⟨t, h2, h3⟩ := key b.size (by rw [List.take_of_length_le (by omega), List.take_of_length_le (by omega)]) (by rw [List.drop_eq_nil_of_le (by omega), List.drop_eq_nil_of_le (by omega)])
    refine ⟨t, ?_, h3⟩
    apply ev_succ
    simp only [spec_l4Text.l0, if_pos (show (i : Int) < x1.length by omega), if_pos (show (0 : Int) ≤ (i : Int) by omega), hr, if_neg q, if_pos q1, if_pos (show (0 : Int) ≤ (b.size : Int) by omega), Int.le_refl, if_true]
    exact h2
   ·obtain ⟨t, h2, h3⟩ := key m.toNat rfl rfl
    refine ⟨t, ?_, h3⟩
    apply ev_succ
    simp only [spec_l4Text.l0, if_pos (show (i : Int) < x1.length by omega), if_pos (show (0 : Int) ≤ (i : Int) by omega), hr, if_neg q, if_neg q1, if_pos (show (0 : Int) ≤ m by omega), if_pos (show m ≤ (b.size : Int) by omega)]
    exact h2
theorem ZaR (b : BA) (x1 : List Int) (hb : b.size ≤ 1048576) (h1 : x1.length ≤ 1048576) : ∃ t, Ev (fun k => spec_l4Text.f k b x1) t ∧ bytesOf t = Ze (bytesOf b) x1 ∧ t.size ≤ 100000000 := by
 have := Zam x1 h1 x1.length 0 b ⟨#[]⟩ rfl (by omega) (by have c0 : (⟨#[]⟩ : BA).size = 0 := rfl; omega) hb
 exact this
def Zag : List Int → List Int → List Int
 | _, [] => [48, 13, 10, 13, 10]
 | b, n :: r => if n < 1 then Zag b r else Zs (b.take n.toNat) ++ Zag (b.drop n.toNat) r
theorem Zbn : ∀ (l b : List Int) (m : Int), (b.length : Int) ≤ m → Zag b (l ++ [m]) = Ze b l
 | [], b, m, h => by
  simp only [List.nil_append, Zag, Ze]
  split
  ·have : b = [] := List.length_eq_zero_iff.1 (by omega)
   subst this; rfl
  ·rw [List.take_of_length_le (by omega)]
 | n :: l, b, m, h => by
  simp only [List.cons_append, Zag, Ze]
  split
  ·exact Zbn l b m h
  ·rw [Zbn l _ m (by rw [List.length_drop]; omega)]
theorem ZdA (l : List Int) (h : l.length ≤ 1048576) : impl_copyInts.f l = some l := by
 unfold impl_copyInts.f
 simp only [List.nil_append, List.length_nil]
 rw [if_pos (by omega)]
theorem ZI (L : List Int) (h1 : L.length ≤ 1048577) : ∀ (n i : Nat) (b s : BA), L.length - i = n → i ≤ L.length → s.size + b.size ≤ 20 * i + 1048576 → b.size ≤ 1048576 →
  ∃ t, Ev (fun k => impl_PutChunks.l0 k b s L (L.length : Int) (i : Int)) t ∧ t = bytesOf s ++ Zag (bytesOf b) (L.drop i)
 | 0, i, b, s, hn, hi, hs, hb => by
  have c1 : (⟨#[48]⟩ : BA).size = 1 := rfl
  have c2 : (⟨#[13, 10]⟩ : BA).size = 2 := rfl
  refine ⟨_, ?_, rfl⟩
  apply ev_succ
  simp only [impl_PutChunks.l0, if_neg (show ¬ (i : Int) < L.length by omega), ByteArray.size_append, c1, c2]
  rw [if_pos (by omega), if_pos (by omega), if_pos (by omega), if_pos (by omega), List.drop_eq_nil_of_le (by omega)]
  simp only [bytesOf_append, Zax, Zcc, Zag, List.append_assoc, List.cons_append, List.nil_append]
  exact Ev.now _
 | n + 1, i, b, s, hn, hi, hs, hb => by
  have hil : i < L.length := by omega
  obtain ⟨hr, _, _⟩ := Zdh (List.drop_eq_getElem_cons hil)
  have hw : wrap64 ((i : Int) + 1) = ((i + 1 : Nat) : Int) := by rw [wrap_id (by omega) (by omega)]; omega
  have hl := bytesOf_length b
  have c2 : (⟨#[13, 10]⟩ : BA).size = 2 := rfl
  rw [List.drop_eq_getElem_cons hil]
  generalize L[i] = m at hr
  by_cases q : m < 1
  ·obtain ⟨t, h2, h3⟩ := ZI L h1 n (i + 1) b s (by omega) (by omega) (by omega) hb
   refine ⟨t, ?_, by simpa only [Zag, if_pos q] using h3⟩
   apply ev_succ
   simp only [impl_PutChunks.l0, if_pos (show (i : Int) < L.length by omega), if_pos (show (0 : Int) ≤ (i : Int) by omega), hr, if_pos q, hw]
   exact h2
  ·simp only [Zag, if_neg q]
   by_cases q0 : b.toList = ([] : List UInt8)
   ·have hb0 := (ZaK b).1 q0
    obtain ⟨t, h2, h3⟩ := ZI L h1 n (i + 1) b s (by omega) (by omega) (by omega) hb
    refine ⟨t, ?_, ?_⟩
    ·apply ev_succ
     simp only [impl_PutChunks.l0, if_pos (show (i : Int) < L.length by omega), if_pos (show (0 : Int) ≤ (i : Int) by omega), hr, if_neg q, if_pos q0, hw]
     exact h2
    ·rw [h3, hb0]
     simp [Zs]
   ·have hb0 : bytesOf b ≠ [] := fun e => q0 ((ZaK b).2 e)
    have hb1 : 0 < b.size := by
     rcases Nat.eq_zero_or_pos b.size with e | e
     ·rw [e] at hl; exact absurd (List.length_eq_zero_iff.1 hl) hb0
     ·exact e
    obtain ⟨j, hj, hj1, hj2⟩ : ∃ j : Nat, mn m (b.size : Int) = (j : Int) ∧ j = min m.toNat b.size ∧ 1 ≤ j := ⟨min m.toNat b.size, by unfold mn; split <;> omega, rfl, by omega⟩
    have e1 : (bytesOf b).take j = (bytesOf b).take m.toNat := by rw [List.take_eq_take_iff]; omega
    have e2 : (bytesOf b).drop j = (bytesOf b).drop m.toNat := by
     rcases Nat.lt_or_ge m.toNat b.size with h | h
     ·rw [show j = m.toNat by omega]
     ·rw [List.drop_eq_nil_of_le (by omega), List.drop_eq_nil_of_le (by omega)]
    have ht : (b.extract 0 j).size = j := by rw [size_len, ZX, List.length_take]; omega
    have hd : (b.extract j b.size).size + j = b.size := by rw [size_len, Z7, List.length_drop]; omega
    have h6 := ZaD 5 j (by omega)
    have hx := ZbF j
    have hh : impl_Hex.f ((j : Nat) : Int) = some (strOfNums (Zl j)) := by rw [Zdz _ (by omega), Int.toNat_natCast]
    have hp : bytesOf (((strOfNums (Zl j) ++ (⟨#[13, 10]⟩ : BA)) ++ b.extract 0 j) ++ (⟨#[13, 10]⟩ : BA)) = Zs ((bytesOf b).take m.toNat) := by
     rw [bytesOf_append, bytesOf_append, bytesOf_append, ZaE, Zax, ZX, e1]
     unfold Zs
     rw [if_neg]
     ·rw [← e1, List.length_take, show min j (bytesOf b).length = j by omega]
     ·intro e
      have := congrArg List.length e
      rw [← e1, List.length_take] at this
      rw [List.length_nil] at this
      omega
    obtain ⟨t, h2, h3⟩ := ZI L h1 n (i + 1) (b.extract j b.size) (s ++ (((strOfNums (Zl j) ++ (⟨#[13, 10]⟩ : BA)) ++ b.extract 0 j) ++ (⟨#[13, 10]⟩ : BA))) (by omega) (by omega) (by simp only [ByteArray.size_append, c2]; omega) (by omega)
    refine ⟨t, ?_, ?_⟩
    ·apply ev_succ
     simp only [impl_PutChunks.l0, if_pos (show (i : Int) < L.length by omega), if_pos (show (0 : Int) ≤ (i : Int) by omega), hr, if_neg q, if_neg q0, hj, hh, Option.bind_some, Int.toNat_natCast]
     simp only [ByteArray.size_append, c2, ht, if_pos (show (strOfNums (Zl j)).size + 2 ≤ 9223372036854775807 by omega), if_pos (show (0 : Int) ≤ (j : Int) by omega), if_pos (show (j : Int) ≤ (b.size : Int) by omega), if_pos (show (strOfNums (Zl j)).size + 2 + j ≤ 9223372036854775807 by omega), if_pos (show (strOfNums (Zl j)).size + 2 + j + 2 ≤ 9223372036854775807 by omega), if_pos (show s.size + ((strOfNums (Zl j)).size + 2 + j + 2) ≤ 9223372036854775807 by omega), hw]
     exact h2
    ·rw [h3, bytesOf_append, hp, Z7, e2, List.append_assoc]
theorem Zbx (b : BA) (l : List Int) (hb : b.size ≤ 1048576) (hl : l.length ≤ 1048576) : Ev (fun k => impl_PutChunks.f k b l) (Ze (bytesOf b) l) := by
 unfold impl_PutChunks.f
 rw [ZdA l hl]
 simp only [Option.bind_some, if_pos (show l.length < 17592186044416 by omega)]
 obtain ⟨t, h2, h3⟩ := ZI (l ++ [(b.size : Int)]) (by simp; omega) _ 0 b ⟨#[]⟩ rfl (by omega) (by have c0 : (⟨#[]⟩ : BA).size = 0 := rfl; omega) hb
 rw [List.drop_zero, Zbn l (bytesOf b) (b.size : Int) (by rw [bytesOf_length]; exact Int.le_refl _)] at h3
 rw [show bytesOf (⟨#[]⟩ : BA) = [] from rfl, List.nil_append] at h3
 subst h3
 exact h2
def TEl : BA := ⟨#[116, 114, 97, 110, 115, 102, 101, 114, 45, 101, 110, 99, 111, 100, 105, 110, 103, 58, 32, 99, 104, 117, 110, 107, 101, 100, 13, 10]⟩
theorem Zbo (m p : BA) (l : List S113) (b : BA) (s : List Int) (hm : m.size ≤ 1048576) (hp : p.size ≤ 1048576) (hl : l.length ≤ 1048576) (hz : ∀ x ∈ l, x.f0.size ≤ 1048576 ∧ x.f1.size ≤ 1048576) (hb : b.size ≤ 1048576) (hs : s.length ≤ 1048576) : Ev (fun k => spec_PutChunked.f k m p l b s) (putV m p l b TEl (Ze (bytesOf b) s)) := by
 obtain ⟨t, ht, ht1, ht2⟩ := ZaR b s hb hs
 unfold spec_PutChunked.f
 rw [← ht1]
 exact Ev.bind ht (Ev.bind (Zas m p l b TEl t hm hp hl hz (by decide) (by omega)) (Ev.now _))
theorem Zbp (m p : BA) (l : List S113) (b : BA) (s : List Int) (hm : m.size ≤ 1048576) (hp : p.size ≤ 1048576) (hl : l.length ≤ 1048576) (hz : ∀ x ∈ l, x.f0.size ≤ 1048576 ∧ x.f1.size ≤ 1048576) (hb : b.size ≤ 1048576) (hs : s.length ≤ 1048576) : Ev (fun k => impl_PutChunked.f k m p l b s) (putV m p l b TEl (Ze (bytesOf b) s)) := by
 obtain ⟨t, ht, ht1, ht2⟩ := ZaR b s hb hs
 have hcl : (Ze (bytesOf b) s).length ≤ 100000000 := by rw [← ht1, bytesOf_length]; exact ht2
 unfold impl_PutChunked.f
 exact Ev.bind (Zbx b s hb hs) (Ev.bind (Zal m p l b TEl (Ze (bytesOf b) s) hm hp hl hz (by decide) (by omega)) (Ev.now _))
theorem ZaB (d : Nat) (h : d < 16) : ZJ (Zp d) = d := by
 have : ∀ d : Fin 16, ZJ (Zp d.val) = (d.val : Int) := by decide
 exact this ⟨d, h⟩
theorem ZbS : ∀ (l : List Int) (i : Nat) (n d : Int), i + l.length < 4 → (∀ c ∈ l, 0 ≤ ZJ c) → 0 ≤ ZJ d → phL i n (l ++ [d]) = ((phL i n l).1 * 16 + ZJ d, true)
 | [], i, n, d, hi, _, hd => by
  simp only [List.length_nil] at hi
  simp only [List.nil_append, phL, if_neg (show ¬ ZJ d < 0 by omega), if_neg (show ¬ i ≥ 4 by omega)]
  rfl
 | c :: l, i, n, d, hi, hl, hd => by
  simp only [List.length_cons] at hi
  have hc := hl c (by simp)
  simp only [List.cons_append, phL, if_neg (show ¬ ZJ c < 0 by omega), if_neg (show ¬ i ≥ 4 by omega)]
  exact ZbS l (i + 1) _ d (by omega) (fun x hx => hl x (by simp [hx])) hd
theorem Zem (u : Nat) : ∀ c ∈ Zl u, 0 ≤ ZJ c := by
 induction u using Nat.strongRecOn with
 | _ u ih =>
  intro c h
  rcases Nat.lt_or_ge 15 u with h9 | h9
  ·rw [ZW u h9, List.mem_append] at h
   rcases h with h | h
   ·exact ih (u / 16) (by omega) c h
   ·simp only [List.mem_cons, List.not_mem_nil, or_false] at h
    rw [h, ZaB _ (Nat.mod_lt _ (by decide))]; omega
  ·rw [ZF u h9] at h
   simp only [List.mem_cons, List.not_mem_nil, or_false] at h
   rw [h, ZaB _ (by omega)]; omega
theorem Zdi : ∀ (k u : Nat), k ≤ 3 → u < 16 ^ (k + 1) → phL 0 0 (Zl u) = ((u : Int), true)
 | k, u, hk, hu => by
  rcases Nat.lt_or_ge 15 u with h9 | h9
  ·match k, hk, hu with
   | 0, _, hu => omega
   | k + 1, hk, hu =>
    have hu2 : u / 16 < 16 ^ (k + 1) := by rw [Nat.pow_succ] at hu; omega
    have hl := ZaD k (u / 16) hu2
    rw [ZW u h9, ZbS _ 0 0 _ (by omega) (Zem _) (by rw [ZaB _ (Nat.mod_lt _ (by decide))]; omega), Zdi k (u / 16) (by omega) hu2, ZaB _ (Nat.mod_lt _ (by decide))]
    simp only [Prod.mk.injEq, and_true]
    omega
  ·rw [ZF u h9]
   have := ZbS [] 0 0 (Zp u) (by simp) (by simp) (by rw [ZaB _ (by omega)]; omega)
   rw [List.nil_append] at this
   rw [this, ZaB _ (by omega)]
   simp [phL]
theorem Zfe (a t : List Int) (h : ∀ x ∈ a, x ≠ 13) : tw (a ++ 13 :: t) = a ∧ dw (a ++ 13 :: t) = 13 :: t := by
 constructor
 ·unfold tw; rw [List.takeWhile_append_of_pos (fun x hx => by simp [h x hx])]; simp
 ·unfold dw; rw [List.dropWhile_append_of_pos (fun x hx => by simp [h x hx])]; simp
theorem Zen (u : Nat) : ∀ x ∈ Zl u, x ≠ 13 := by
 intro x hx e
 have := Zem u x hx
 rw [e] at this
 exact absurd this (by decide)
theorem Zcd (u : Nat) (hu : u < 65536) (t : List Int) : Za (Zl u ++ 13 :: 10 :: t) = ((u : Int), t, 0) := by
 obtain ⟨h1, h2⟩ := Zfe (Zl u) (10 :: t) (Zen u)
 unfold Za
 rw [h1, h2, Zdi 3 u (by omega) (by omega), if_neg (by simp), if_pos rfl]
 simp [Zb]
theorem ZcH (y : List Int) : Zb (13 :: 10 :: y) = (0, y) := by simp [Zb]
theorem ZcI (n : Nat) (b y acc : List Int) (hb : b ≠ []) (hl : acc.length + b.length ≤ 200) : chR (n + 1) (Zs b ++ y) acc = chR n y (acc ++ b) := by
 have e : Zs b ++ y = Zl b.length ++ 13 :: 10 :: (b ++ 13 :: 10 :: y) := by unfold Zs; rw [if_neg hb]; simp
 have hp : 0 < b.length := List.length_pos_iff.2 hb
 rw [e, chR, Zcd _ (by omega)]
 simp only [Int.toNat_natCast]
 rw [if_neg (by simp), if_neg (by omega), if_neg (by rw [List.length_append]; omega), List.drop_left, List.take_left, ZcH]
 simp only []
 rw [if_neg (by simp), if_neg (by omega)]
theorem Zdj (n : Nat) (y acc : List Int) (hl : acc.length ≤ 200) : chR (n + 1) (48 :: 13 :: 10 :: 13 :: 10 :: y) acc = (acc, y, 0) := by
 have e : Za (48 :: 13 :: 10 :: 13 :: 10 :: y) = (0, 13 :: 10 :: y, 0) := by
  have := Zcd 0 (by omega) (13 :: 10 :: y)
  rw [ZF 0 (by omega)] at this
  exact this
 rw [chR, e]
 simp only [Int.toNat_zero]
 rw [if_neg (by simp), if_neg (by omega), if_neg (by simp), List.drop_zero, ZcH]
 simp only []
 simp
theorem Zce : Zs [] = [] := rfl
theorem Zcf {b : List Int} (hb : b ≠ []) : 0 < (Zs b).length := by
 unfold Zs; rw [if_neg hb]; simp only [List.length_append, List.length_cons]; omega
theorem Zaz : ∀ (sizes b acc y : List Int) (n : Nat), (Ze b sizes).length < n → acc.length + b.length ≤ 200 → chR n (Ze b sizes ++ y) acc = (acc ++ b, y, 0)
 | [], b, acc, y, n, hn, hl => by
  rw [Ze] at hn ⊢
  rw [List.length_append, List.length_cons] at hn
  by_cases q : b = []
  ·subst q
   obtain ⟨m, rfl⟩ : ∃ m, n = m + 1 := ⟨n - 1, by omega⟩
   rw [Zce]
   simp only [List.nil_append, List.append_nil]
   exact Zdj m y acc (by simpa using hl)
  ·have hp := Zcf q
   obtain ⟨m, rfl⟩ : ∃ m, n = m + 1 + 1 := ⟨n - 2, by omega⟩
   rw [List.append_assoc, ZcI _ b _ acc q hl]
   exact Zdj m y (acc ++ b) (by rw [List.length_append]; exact hl)
 | s :: r, b, acc, y, n, hn, hl => by
  rw [Ze] at hn ⊢
  by_cases q : s < 1
  ·rw [if_pos q] at hn ⊢
   exact Zaz r b acc y n hn hl
  ·rw [if_neg q] at hn ⊢
   rw [List.length_append] at hn
   have hd : (b.take s.toNat).length + (b.drop s.toNat).length = b.length := by rw [← List.length_append, List.take_append_drop]
   by_cases q1 : b.take s.toNat = []
   ·have hb : b.drop s.toNat = b := by have := List.take_append_drop s.toNat b; rw [q1, List.nil_append] at this; exact this
    rw [q1, Zce, List.nil_append, hb]
    rw [q1, hb] at hn
    exact Zaz r b acc y n (by omega) hl
   ·have hp := Zcf q1
    obtain ⟨m, rfl⟩ : ∃ m, n = m + 1 := ⟨n - 1, by omega⟩
    rw [List.append_assoc, ZcI _ _ _ acc q1 (by omega), Zaz r (b.drop s.toNat) (acc ++ b.take s.toNat) y m (by omega) (by rw [List.length_append]; omega), List.append_assoc, List.take_append_drop]
def Zah (m p : BA) : List Int := bytesOf m ++ 32 :: (bytesOf p ++ 32 :: ZaZ)
def ZE (m p : BA) (hs : List S113) (ex : List (List Int)) : List (List Int) := Zah m p :: (hs.map Zao ++ ex)
theorem Zcg : ∀ (ls : List (List Int)) (a : List Int), Zx (a :: ls) ++ [13, 10] = (a :: ls).flatMap (fun x => x ++ [13, 10])
 | [], a => by simp [Zx]
 | b :: r, a => by
  have ih := Zcg r b
  rw [Zx, List.flatMap_cons, ← ih]; simp
theorem ZcR (m p : BA) (hs : List S113) (more : BA) (ex : List (List Int)) (hm : bytesOf more = ex.flatMap (fun x => x ++ [13, 10])) : bytesOf (Zi m p hs more) = Zx (ZE m p hs ex) ++ [13, 10, 13, 10] := by
 have h1 : Zx (ZE m p hs ex) ++ [13, 10, 13, 10] = (Zx (ZE m p hs ex) ++ [13, 10]) ++ [13, 10] := by simp
 rw [h1]
 unfold ZE
 rw [Zcg]
 unfold Zi Zak Zah
 simp only [bytesOf_append, ZcF, hm, List.flatMap_cons, List.flatMap_append, List.flatMap_map, List.append_assoc, List.cons_append]
 rfl
theorem Z5 {m p : BA} {hs : List S113} {b : BA} (q : Z6 m p hs b = true) : (∀ x ∈ bytesOf m, 65 ≤ x ∧ x ≤ 90) ∧ (∀ x ∈ bytesOf p, 33 ≤ x ∧ x ≤ 126) ∧ ZU m = true ∧ Zv p = true ∧ hs.length ≤ 8 ∧ b.size ≤ 200 ∧ (∀ h ∈ hs, Zz h = true) ∧ m.size ≤ 9 ∧ p.size ≤ 80 := by
 unfold Z6 at q
 simp only [Bool.and_eq_true, decide_eq_true_eq] at q
 obtain ⟨q1, q2, q3, q4⟩ := q
 have q1' := q1
 have q2' := q2
 unfold ZU Z8 at q1'
 unfold Zv Z8 at q2'
 unfold Zbv Zd at q3
 simp only [Bool.and_eq_true, decide_eq_true_eq] at q1' q2' q3
 refine ⟨fun x hx => ?_, fun x hx => ?_, q1, q2, by omega, by omega, List.all_eq_true.1 q3.1, by omega, by omega⟩
 ·have := (List.all_eq_true.1 q1'.1) x hx
  unfold ZA at this
  simp only [Bool.and_eq_true, decide_eq_true_eq] at this
  exact this
 ·have := (List.all_eq_true.1 q2'.2) x hx
  unfold ZZ at this
  simp only [Bool.and_eq_true, decide_eq_true_eq] at this
  exact this
theorem Zdk (m p : BA) : ∀ x ∈ Zah m p, 0 ≤ x ∧ x < 256 := by
 intro x hx
 unfold Zah at hx
 rcases List.mem_append.1 hx with h | h
 ·exact bytesOf_range _ x h
 ·rcases List.mem_cons.1 h with h | h
  ·omega
  ·rcases List.mem_append.1 h with h | h
   ·exact bytesOf_range _ x h
   ·rcases List.mem_cons.1 h with h | h
    ·omega
    ·exact (by decide : ∀ x ∈ ZaZ, 0 ≤ x ∧ x < 256) x h
theorem ZbG {m p : BA} {hs : List S113} {b : BA} {ex : List (List Int)} (q : Z6 m p hs b = true) (hx : ∀ a ∈ ex, a ≠ [] ∧ ∀ x ∈ a, x ≠ 13) : ∀ a ∈ ZE m p hs ex, a ≠ [] ∧ ∀ x ∈ a, x ≠ 13 := by
 obtain ⟨h1, h2, _, _, _, _, hh, _⟩ := Z5 q
 intro a ha
 unfold ZE at ha
 rcases List.mem_cons.1 ha with e | e
 ·subst e
  refine ⟨by simp [Zah], fun x hx => ?_⟩
  unfold Zah at hx
  rcases List.mem_append.1 hx with h | h
  ·have := h1 x h; omega
  ·rcases List.mem_cons.1 h with h | h
   ·omega
   ·rcases List.mem_append.1 h with h | h
    ·have := h2 x h; omega
    ·rcases List.mem_cons.1 h with h | h
     ·omega
     ·exact (by decide : ∀ x ∈ ZaZ, x ≠ 13) x h
 ·rcases List.mem_append.1 e with e | e
  ·obtain ⟨h, hm, rfl⟩ := List.mem_map.1 e
   have hf := Zbm (hh h hm)
   refine ⟨by simp [Zao], fun x hx => ?_⟩
   unfold Zao at hx
   rcases List.mem_append.1 hx with h | h
   ·have := hf.1 x h; omega
   ·rcases List.mem_cons.1 h with h | h
    ·omega
    ·rcases List.mem_cons.1 h with h | h
     ·omega
     ·have := hf.2.1 x h; omega
  ·exact hx a e
theorem Zcs (c : Int) : ∀ (a cur r : List Int), (∀ x ∈ a, x ≠ c) → ZQ c cur (a ++ c :: r) = (cur ++ a) :: ZQ c [] r
 | [], cur, r, _ => by simp [ZQ]
 | x :: a, cur, r, h => by
  rw [List.cons_append, ZQ, if_neg (h x (by simp)), Zcs c a _ r (fun y hy => h y (by simp [hy]))]
  simp
theorem ZcJ (c : Int) : ∀ (a cur : List Int), (∀ x ∈ a, x ≠ c) → ZQ c cur a = [cur ++ a]
 | [], cur, _ => by simp [ZQ]
 | x :: a, cur, h => by
  rw [ZQ, if_neg (h x (by simp)), ZcJ c a _ (fun y hy => h y (by simp [hy]))]
  simp
theorem Zdl {m p : BA} (h1 : ∀ x ∈ bytesOf m, 65 ≤ x ∧ x ≤ 90) (h2 : ∀ x ∈ bytesOf p, 33 ≤ x ∧ x ≤ 126) : Zm 32 (bytesOf (strOfNums (Zah m p))) = [m, p, strOfNums ZaZ] := by
 rw [bytesOf_strOfNums _ (Zdk m p)]
 unfold Zm Zah
 rw [Zcs 32 (bytesOf m) [] _ (fun x hx => by have := h1 x hx; omega), Zcs 32 (bytesOf p) [] _ (fun x hx => by have := h2 x hx; omega), ZcJ 32 ZaZ [] (by decide)]
 simp only [List.nil_append, List.map_cons, List.map_nil, strOfNums_bytesOf]
theorem Zeo (c : Int) : ∀ (a r : List Int), (∀ x ∈ a, x ≠ c) → tkC c (a ++ c :: r) = a ∧ drC c (a ++ c :: r) = c :: r
 | [], r, _ => by simp [tkC, drC]
 | x :: a, r, h => by
  have hx := h x (by simp)
  obtain ⟨i1, i2⟩ := Zeo c a r (fun y hy => h y (by simp [hy]))
  unfold tkC drC at *
  refine ⟨?_, ?_⟩
  ·rw [List.cons_append, List.takeWhile_cons, if_pos (by simpa using hx), i1]
  ·rw [List.cons_append, List.dropWhile_cons, if_pos (by simpa using hx), i2]
theorem Zch : ∀ (l : List Int), (∀ x ∈ l, ZA x = false) → Z2 l = l
 | [], _ => rfl
 | x :: l, h => by
  have := Zch l (fun y hy => h y (by simp [hy]))
  unfold Z2 at *
  rw [List.map_cons, this]
  unfold ZaM
  rw [if_neg (by rw [h x (by simp)]; simp)]
theorem ZdB (s : BA) (h : ∀ x ∈ bytesOf s, ZA x = false) : ZG s = s := by
 unfold ZG; rw [Zch _ h, strOfNums_bytesOf]
theorem Zd3 (l : List Int) : Zo (Zj (32 :: l)) = Zo (Zj l) := by
 have e : Zj (32 :: l) = if Zj l = [] then [] else 32 :: Zj l := by
  unfold Zj
  rw [List.reverse_cons, List.dropWhile_append]
  cases hd : l.reverse.dropWhile Zn with
  | nil => simp [List.dropWhile, show Zn 32 = true from rfl]
  | cons a t => simp
 rw [e]
 split
 ·rename_i h; rw [h]
 ·unfold Zo
  rw [List.dropWhile_cons, if_pos (by rfl)]
theorem ZeW (v : BA) : ZS (strOfNums (32 :: bytesOf v)) = ZS v := by
 unfold ZS
 rw [bytesOf_strOfNums (32 :: bytesOf v) (fun x hx => by rcases List.mem_cons.1 hx with h | h; omega; exact bytesOf_range _ x h), Zd3]
theorem Za2 (n : BA) (v : BA) (l : List Int) (hl : l = bytesOf n ++ 58 :: 32 :: bytesOf v) (hn : ∀ x ∈ bytesOf n, x ≠ 58 ∧ ZA x = false) : drC 58 (bytesOf (strOfNums l)) ≠ [] ∧ Zh (strOfNums l) = n ∧ ZV (strOfNums l) = ZS v := by
 have hr : ∀ x ∈ l, 0 ≤ x ∧ x < 256 := by
  intro x hx
  rw [hl] at hx
  rcases List.mem_append.1 hx with h | h
  ·exact bytesOf_range _ x h
  ·rcases List.mem_cons.1 h with h | h
   ·omega
   ·rcases List.mem_cons.1 h with h | h
    ·omega
    ·exact bytesOf_range _ x h
 obtain ⟨t1, t2⟩ := Zeo 58 (bytesOf n) (32 :: bytesOf v) (fun x hx => (hn x hx).1)
 unfold Zh ZV
 rw [bytesOf_strOfNums l hr, hl, t1, t2, strOfNums_bytesOf, ZdB n (fun x hx => (hn x hx).2), List.tail_cons, ZeW]
 exact ⟨by simp, rfl, rfl⟩
theorem Zd4 {x : Int} (h : (97 ≤ x ∧ x ≤ 122) ∨ (48 ≤ x ∧ x ≤ 57) ∨ x = 45) : x ≠ 58 ∧ ZA x = false := by
 refine ⟨by omega, ?_⟩
 unfold ZA
 rw [Bool.and_eq_false_iff, decide_eq_false_iff_not, decide_eq_false_iff_not]; omega
theorem Zd5 {h : S113} (q : Zz h = true) (m p : BA) (hs : List S113) (b co : BA) (ch : Bool) (sz : Int) (td bad : Bool) : ZH (strOfNums (Zao h)) (m, p, hs, b, co, ch, sz, td, bad) = (m, p, hs ++ [h], b, co, ch, sz, td, bad) := by
 have hf := Zbm q
 obtain ⟨l1, l2, l3⟩ := Za2 h.f0 h.f1 (Zao h) rfl (fun x hx => Zd4 (hf.1 x hx))
 unfold Zz ZT at q
 simp only [Bool.and_eq_true, decide_eq_true_eq] at q
 obtain ⟨q1, q2, q3, q4⟩ := q
 have ht : ZS h.f1 = h.f1 := by
  have := q2
  unfold ZY at this
  simp only [Bool.and_eq_true, beq_iff_eq] at this
  have h2 := this.2.2
  rw [Lib.toList_data, Lib.toList_data] at h2
  exact ByteArray.ext (Array.toList_inj.1 h2)
 unfold ZH
 simp only []
 rw [l2, l3, ht, if_pos ⟨l1, q1, q2⟩, if_neg]
 rintro (e | e)
 ·exact q3 ((ZC h.f0 _).2 e)
 ·exact q4 ((ZC h.f0 _).2 e)
theorem Zci : ∀ (hs : List S113) (ls : List BA) (m p : BA) (acc : List S113) (b co : BA) (ch : Bool) (sz : Int) (td bad : Bool), (∀ h ∈ hs, Zz h = true) →
  Z9 (hs.map (fun h => strOfNums (Zao h)) ++ ls) (m, p, acc, b, co, ch, sz, td, bad) = Z9 ls (m, p, acc ++ hs, b, co, ch, sz, td, bad)
 | [], ls, m, p, acc, b, co, ch, sz, td, bad, _ => by simp
 | h :: r, ls, m, p, acc, b, co, ch, sz, td, bad, hh => by
  have ih := Zci r ls m p (acc ++ [h]) b co ch sz td bad (fun y hy => hh y (by simp [hy]))
  rw [List.map_cons, List.cons_append]
  show Z9 _ (ZH (strOfNums (Zao h)) (m, p, acc, b, co, ch, sz, td, bad)) = _
  rw [Zd5 (hh h (by simp)), ih]; simp
theorem ZeX {m p : BA} {hs : List S113} {b : BA} {ex : List (List Int)} (q : Z6 m p hs b = true) (hx : ∀ a ∈ ex, a ≠ [] ∧ ∀ x ∈ a, x ≠ 13) (st : Zt) (hst : Z9 (ex.map strOfNums) (m, p, hs, ⟨#[]⟩, ⟨#[]⟩, false, 0, false, false) = st) : rhS (Zx (ZE m p hs ex)) = (st, Zaf st) := by
 obtain ⟨h1, h2, h3, h4, _, _, hh, _⟩ := Z5 q
 have hL : Zg (Zx (ZE m p hs ex)) = (ZE m p hs ex).map strOfNums := by
  unfold Zg
  rw [Zcx _ (by unfold ZE; simp) (fun a ha => (ZbG q hx a ha).2)]
 have hp := Zdl h1 h2
 have hg : ((ZE m p hs ex).map strOfNums).getD 0 ByteArray.empty = strOfNums (Zah m p) := rfl
 have hd : ((ZE m p hs ex).map strOfNums).drop 1 = hs.map (fun h => strOfNums (Zao h)) ++ ex.map strOfNums := by
  unfold ZE
  rw [List.map_cons, List.drop_one, List.tail_cons, List.map_append, List.map_map]
  rfl
 have hr := Zci hs (ex.map strOfNums) m p [] (⟨#[]⟩ : BA) (⟨#[]⟩ : BA) false 0 false false hh
 rw [List.nil_append, hst] at hr
 unfold rhS
 rw [hL, hg, hd, hp]
 simp only [List.getD_cons_zero, List.getD_cons_succ]
 rw [hr, if_pos ⟨rfl, bytesOf_strOfNums ZaZ (by decide), by rw [h3, h4]; rfl⟩]
theorem ZbT {m p : BA} {hs : List S113} {b more : BA} {ex : List (List Int)} (q : Z6 m p hs b = true) (hmo : bytesOf more = ex.flatMap (fun x => x ++ [13, 10])) (hx : ∀ a ∈ ex, a ≠ [] ∧ ∀ x ∈ a, x ≠ 13) (hz : (Zi m p hs more).size ≤ 400)
  (co : BA) (ch : Bool) (sz : Int) (td : Bool) (hst : Z9 (ex.map strOfNums) (m, p, hs, ⟨#[]⟩, ⟨#[]⟩, false, 0, false, false) = (m, p, hs, ⟨#[]⟩, co, ch, sz, td, false)) (hco : ch = true → bytesOf (ZG co) = CHb) (hsz : sz ≤ 200) (y : List Int) :
  Zw (bytesOf (Zi m p hs more) ++ y) = ZB (bytesOf (Zi m p hs more) ++ y) (bytesOf (Zi m p hs more)).length m p hs ch sz 0 := by
 have hb := ZcR m p hs more ex hmo
 have hl : (bytesOf (Zi m p hs more)).length = (Zx (ZE m p hs ex)).length + 4 := by rw [hb]; simp
 have hl4 := bytesOf_length (Zi m p hs more)
 have hE : Zc (bytesOf (Zi m p hs more) ++ y) = ((bytesOf (Zi m p hs more)).length : Int) := by
  unfold Zc
  rw [List.take_append, List.take_of_length_le (by omega)]
  have h1 := Zcy (ZE m p hs ex) 0 (y.take (400 - (bytesOf (Zi m p hs more)).length)) (by unfold ZE; simp) (ZbG q hx)
  rw [hl, Nat.zero_add] at *
  rw [hb, List.append_assoc]
  exact h1
 have hS := ZeX q hx _ hst
 have hC : Zaf (m, p, hs, (⟨#[]⟩ : BA), co, ch, sz, td, false) = 0 := by
  rw [ZcC, if_neg (by simp), if_neg (by have := (Z5 q).2.2.2.2.1; omega), if_neg (fun h => h.2 (hco h.1)), if_neg (by omega)]
 rw [hC] at hS
 have hT : (bytesOf (Zi m p hs more) ++ y).take ((bytesOf (Zi m p hs more)).length - 4) = Zx (ZE m p hs ex) := by
  rw [hl, Nat.add_sub_cancel, hb, List.append_assoc, List.take_left]
 unfold Zw
 rw [hE, if_neg (by omega), Int.toNat_natCast, hT, hS]
 rfl
theorem Zct {m p : BA} {hs : List S113} {b more : BA} {body : List Int} (h : putV m p hs b more body ≠ []) : Z6 m p hs b = true ∧ (Zi m p hs more).size ≤ 400 ∧ putV m p hs b more body = bytesOf (Zi m p hs more) ++ body := by
 unfold putV at h ⊢
 by_cases q : Z6 m p hs b = true
 ·rw [if_pos q] at h ⊢
  by_cases q1 : ((Zi m p hs more).size : Int) > 400
  ·rw [if_pos q1] at h; exact absurd rfl h
  ·rw [if_neg q1] at h ⊢
   exact ⟨q, by omega, rfl⟩
 ·rw [if_neg q] at h; exact absurd rfl h
theorem Zdm (a : List Int) (st st' : Zt) (h : ZH (strOfNums a) st = st') : Z9 ([a].map strOfNums) st = st' := by
 unfold Z9
 simp only [List.map_cons, List.map_nil, List.foldl_cons, List.foldl_nil]
 exact h
theorem ZeI (u : Nat) : ∀ a ∈ [bytesOf CLp ++ Zf u], a ≠ [] ∧ ∀ x ∈ a, x ≠ 13 := by
 intro a ha
 rw [List.mem_singleton] at ha
 subst ha
 refine ⟨by simp [CLp, bytesOf], fun x hx => ?_⟩
 rcases List.mem_append.1 hx with h | h
 ·intro e; subst e; revert h; decide
 ·have := ZbJ u x h; omega
theorem ZcS (b : BA) : bytesOf (Zac b) = [bytesOf CLp ++ Zf b.size].flatMap (fun x => x ++ [13, 10]) := by
 unfold Zac
 simp only [bytesOf_append, bytesOf_strOfNums _ (ZK b.size), List.flatMap_cons, List.flatMap_nil, List.append_nil]
 rfl
theorem ZeJ {m p : BA} {hs : List S113} {b : BA} (h : putReqV m p hs b ≠ []) (y : List Int) : Zw (putReqV m p hs b ++ y) = (m, p, hs, b, ((putReqV m p hs b).length : Int), 0) := by
 unfold putReqV at h ⊢
 by_cases q0 : bytesOf b = []
 ·rw [if_pos q0, q0] at h ⊢
  obtain ⟨q, hz, e⟩ := Zct h
  rw [e, List.append_nil]
  rw [ZbT q (ex := []) (by rfl) (by simp) hz (⟨#[]⟩ : BA) false 0 false rfl (by simp) (by omega) y]
  have hb : b = strOfNums [] := by rw [← q0, strOfNums_bytesOf]
  unfold ZB
  rw [if_neg (by simp), if_neg (by simp), if_neg (by rw [List.length_append]; simp)]
  simp [hb]
 ·rw [if_neg q0] at h ⊢
  obtain ⟨q, hz, e⟩ := Zct h
  have hb2 : b.size ≤ 200 := (Z5 q).2.2.2.2.2.1
  have hb3 : (b.size : Int) ≤ 200 := Int.ofNat_le.2 hb2
  have h7 := ZaW 3 b.size (by omega)
  have hne := Zbt b.size
  have hdig := ZbJ b.size
  have hCL : bytesOf CLp = CLb ++ [58, 32] := rfl
  obtain ⟨l1, l2, l3⟩ := Za2 (strOfNums CLb) (strOfNums (Zf b.size)) (bytesOf CLp ++ Zf b.size) (by rw [bytesOf_strOfNums _ (ZK _), bytesOf_strOfNums CLb (by decide), hCL]; simp) (by rw [bytesOf_strOfNums CLb (by decide)]; decide)
  have ht : ZS (strOfNums (Zf b.size)) = strOfNums (Zf b.size) := by
   unfold ZS
   rw [bytesOf_strOfNums _ (ZK _)]
   have hnb : ∀ x ∈ Zf b.size, Zn x = false := by
    intro x hx; have := hdig x hx
    unfold Zn; rw [decide_eq_false (by omega), decide_eq_false (by omega)]; rfl
   have e1 : ∀ l : List Int, (∀ x ∈ l, Zn x = false) → l.dropWhile Zn = l := by
    intro l hl
    cases l with
    | nil => rfl
    | cons a t => rw [List.dropWhile_cons, if_neg (by rw [hl a (by simp)]; simp)]
   have e2 : Zj (Zf b.size) = Zf b.size := by
    unfold Zj; rw [e1 _ (fun x hx => hnb x (List.mem_reverse.1 hx)), List.reverse_reverse]
   rw [e2]; unfold Zo; rw [e1 _ hnb]
  have hbs : bytesOf (strOfNums (Zf b.size)) = Zf b.size := bytesOf_strOfNums _ (ZK _)
  have hsz : (strOfNums (Zf b.size)).size = (Zf b.size).length := strOfNums_size _
  have hv : ZY (strOfNums (Zf b.size)) = true := by
   unfold ZY
   rw [ht, hsz, hbs]
   simp only [Bool.and_eq_true, decide_eq_true_eq, beq_self_eq_true, and_true]
   refine ⟨by omega, ?_⟩
   unfold ZP
   rw [List.all_eq_true]
   intro x hx; have := hdig x hx
   unfold ZO
   rw [decide_eq_true (by omega), decide_eq_true (by omega)]; rfl
  have hp : Z1 (strOfNums (Zf b.size)) 9999999 = ((b.size : Int), true) := ZbK _ _ b.size hbs (by omega) (by omega)
  have hbc : bytesOf (strOfNums CLb) = CLb := bytesOf_strOfNums CLb (by decide)
  have hst : ZH (strOfNums (bytesOf CLp ++ Zf b.size)) (m, p, hs, ⟨#[]⟩, ⟨#[]⟩, false, 0, false, false) = (m, p, hs, ⟨#[]⟩, ⟨#[]⟩, false, (b.size : Int), true, false) := by
   unfold ZH
   simp only []
   rw [l2, l3, ht, if_pos ⟨l1, by decide, hv⟩, if_pos (.inl hbc)]
   unfold ZaH
   simp only [hp]
   rw [hbc, if_neg (by decide), if_neg (by decide)]
   rfl
  rw [e, List.append_assoc]
  rw [ZbT q (ex := [bytesOf CLp ++ Zf b.size]) (ZcS b) (ZeI b.size) hz (⟨#[]⟩ : BA) false (b.size : Int) true (Zdm _ _ _ hst) (by simp) hb3 (bytesOf b ++ y)]
  unfold ZB
  rw [if_neg (by simp), if_neg (by simp), Int.toNat_natCast, if_neg (by simp only [List.length_append, bytesOf_length]; omega), List.drop_left, List.take_left' (bytesOf_length b), strOfNums_bytesOf, List.length_append, bytesOf_length b]
theorem Zep {m p : BA} {hs : List S113} {b : BA} {s : List Int} (h : putV m p hs b TEl (Ze (bytesOf b) s) ≠ []) (y : List Int) : Zw (putV m p hs b TEl (Ze (bytesOf b) s) ++ y) = (m, p, hs, b, ((putV m p hs b TEl (Ze (bytesOf b) s)).length : Int), 0) := by
 obtain ⟨q, hz, e⟩ := Zct h
 have hb2 : b.size ≤ 200 := (Z5 q).2.2.2.2.2.1
 have hst : ZH (strOfNums (TEb ++ [58, 32] ++ CHb)) (m, p, hs, ⟨#[]⟩, ⟨#[]⟩, false, 0, false, false) = (m, p, hs, ⟨#[]⟩, strOfNums CHb, true, 0, false, false) := by
  have hbc : bytesOf (strOfNums TEb) = TEb := bytesOf_strOfNums TEb (by decide)
  obtain ⟨l1, l2, l3⟩ := Za2 (strOfNums TEb) (strOfNums CHb) (TEb ++ [58, 32] ++ CHb) (by rw [bytesOf_strOfNums CHb (by decide), hbc]; rfl) (by rw [hbc]; decide)
  have ht : ZS (strOfNums CHb) = strOfNums CHb := by unfold ZS; rw [bytesOf_strOfNums CHb (by decide)]; rfl
  have hv : ZY (strOfNums CHb) = true := by
   unfold ZY
   rw [ht, bytesOf_strOfNums CHb (by decide), strOfNums_size, beq_self_eq_true]
   decide
  unfold ZH
  simp only []
  rw [l2, l3, ht, if_pos ⟨l1, by decide, hv⟩, if_pos (.inr hbc)]
  unfold ZaH
  simp only []
  rw [if_neg (by decide), if_pos hbc]
 rw [e, List.append_assoc]
 rw [ZbT q (ex := [TEb ++ [58, 32] ++ CHb]) (by rfl) (by
  intro a ha
  rw [List.mem_singleton] at ha
  subst ha
  exact ⟨by decide, by decide⟩) hz (strOfNums CHb) true 0 false (Zdm _ _ _ hst) (fun _ => by decide) (by omega) (Ze (bytesOf b) s ++ y)]
 have hw := Zaz s (bytesOf b) [] y ((bytesOf (Zi m p hs TEl) ++ (Ze (bytesOf b) s ++ y)).length + 1) (by simp only [List.length_append]; omega) (by rw [bytesOf_length]; simpa using hb2)
 unfold ZB
 rw [if_neg (by simp), if_pos rfl, List.drop_left, hw]
 simp only [if_true, List.nil_append, strOfNums_bytesOf, Prod.mk.injEq, true_and, and_true]
 simp only [List.length_append]; omega
theorem ZaF (l : List Int) (h : l.length ≤ 1048576) : impl_copyBytes.f l = some l := by
 unfold impl_copyBytes.f
 rw [if_pos (by simp only [List.length_nil]; omega), List.nil_append]
def Z0 (p : S53 × List Int) : Prop := p.2 ≠ [] ∧ ∀ y, Zw (p.2 ++ y) = (p.1.f0, p.1.f1, p.1.f2, p.1.f3, (p.2.length : Int), 0)
def Zq (ps : List (S53 × List Int)) : List Int := ps.flatMap (·.2)
theorem ZeY (l : List Int) (h : Zr (Zw l) = 0) : Zdg (Zw l) ≤ l.length := by
 unfold Zw at h ⊢
 by_cases c0 : Zc l < 0
 ·rw [if_pos c0] at h
  split at h <;> exact absurd h (by simp only [Zel]; decide)
 rw [if_neg c0] at h ⊢
 have hle := Za0 l
 unfold ZB at h ⊢
 split
 ·rename_i q; rw [if_pos q] at h; exact absurd h q
 ·rename_i q
  rw [if_neg q] at h
  split
  ·rename_i q1
   rw [if_pos q1] at h
   split
   ·show (l.length : Int) - _ ≤ _; omega
   ·rename_i q2; rw [if_neg q2] at h; exact absurd h q2
  ·rename_i q1
   rw [if_neg q1] at h
   split
   ·rename_i q2; rw [if_pos q2] at h; exact absurd (show (1 : Int) = 0 from h) (by decide)
   ·show (((Zc l).toNat + _ : Nat) : Int) ≤ _; omega
theorem Zeq {p : S53 × List Int} (hp : Z0 p) (buf z : List Int) (h : buf ++ z = p.2) (hz : buf.length < p.2.length) : Zr (Zw buf) = 1 := by
 have h1 := hp.2 []
 rw [List.append_nil, ← h] at h1
 obtain ⟨a1, a2, _⟩ := ZeG buf z
 by_cases c0 : Zr (Zw buf) = 0
 ·have e := a1 c0
  have hle := ZeY buf c0
  rw [h1] at e
  rw [← e] at hle
  simp only [Zdg] at hle
  rw [h] at hle
  omega
 ·by_cases c1 : Zr (Zw buf) = 1
  ·exact c1
  ·have := a2 c0 c1
   rw [h1] at this
   exact absurd this.symm c0
theorem ZeK : Zr (Zw []) = 1 := by decide
def ZcW (buf : List Int) : List (S53 × List Int) → Prop
 | [] => buf = []
 | p :: _ => buf.length < p.2.length
theorem ZdL : ∀ (ps : List (S53 × List Int)) (acc : List S53) (buf rest : List Int), (∀ p ∈ ps, Z0 p) → buf ++ rest = Zq ps → (∀ x ∈ buf, 0 ≤ x ∧ x < 256) → buf.length ≤ 1048575 → acc.length + ps.length ≤ 1048576 →
  ∃ i buf', i ≤ ps.length ∧ Ev (fun k => impl_Wire_feed.l0 k acc buf 0) (acc ++ (ps.take i).map (·.1), buf', 0) ∧ buf' ++ rest = Zq (ps.drop i) ∧ ZcW buf' (ps.drop i) ∧ (∀ x ∈ buf', 0 ≤ x ∧ x < 256) ∧ buf'.length ≤ buf.length
 | [], acc, buf, rest, _, h, hr, hl, ha => by
  have hb : buf = [] := (List.append_eq_nil_iff.1 h).1
  subst hb
  refine ⟨0, [], Nat.le_refl _, ?_, h, rfl, hr, Nat.le_refl _⟩
  have hg := ZcD [] (by simp) (by simp)
  have hc := ZeK
  simp only [Zr] at hc
  apply ev_succ
  simp only [impl_Wire_feed.l0]
  refine Ev.bind hg ?_
  simp only [if_neg (show ¬ (Zw []).2.2.2.2.2 = 0 by rw [hc]; decide), if_pos hc, ZaF [] (by simp), Option.bind_some]
  rw [List.take_zero, List.map_nil, List.append_nil]
  exact Ev.now _
 | p :: ps, acc, buf, rest, hp, h, hr, hl, ha => by
  have hp0 := hp p (by simp)
  have hg := ZcD buf hl hr
  rw [show Zq (p :: ps) = p.2 ++ Zq ps from rfl] at h
  rcases Nat.lt_or_ge buf.length p.2.length with hlt | hge
  ·refine ⟨0, buf, Nat.zero_le _, ?_, h, hlt, hr, Nat.le_refl _⟩
   have hz : buf ++ p.2.drop buf.length = p.2 := by
    have e : p.2.take buf.length = buf := by
     have := congrArg (List.take buf.length) h
     rw [List.take_left, List.take_append_of_le_length (by omega)] at this
     exact this.symm
    have := List.take_append_drop buf.length p.2
    rw [e] at this; exact this
   have hc := Zeq hp0 buf _ hz hlt
   simp only [Zr] at hc
   apply ev_succ
   simp only [impl_Wire_feed.l0]
   refine Ev.bind hg ?_
   simp only [if_neg (show ¬ (Zw buf).2.2.2.2.2 = 0 by rw [hc]; decide), if_pos hc, ZaF buf (by omega), Option.bind_some]
   rw [List.take_zero, List.map_nil, List.append_nil]
   exact Ev.now _
  ·have e : buf.take p.2.length = p.2 := by
    have := congrArg (List.take p.2.length) h
    rw [List.take_left, List.take_append_of_le_length hge] at this
    exact this
   have hb : buf = p.2 ++ buf.drop p.2.length := by
    have := List.take_append_drop p.2.length buf
    rw [e] at this; exact this.symm
   have hq := hp0.2 (buf.drop p.2.length)
   rw [← hb] at hq
   have h2 : buf.drop p.2.length ++ rest = Zq ps := by
    rw [hb, List.append_assoc] at h
    exact List.append_cancel_left h
   obtain ⟨i, buf', hi, he, h3, h4, h5, h6⟩ := ZdL ps (acc ++ [p.1]) (buf.drop p.2.length) rest (fun x hx => hp x (by simp [hx])) h2 (fun x hx => hr x (List.mem_of_mem_drop hx)) (by rw [List.length_drop]; omega) (by rw [List.length_append, List.length_singleton]; simp only [List.length_cons] at ha; omega)
   rw [List.length_drop] at h6
   refine ⟨i + 1, buf', by simp only [List.length_cons]; omega, ?_, h3, h4, h5, by omega⟩
   apply ev_succ
   simp only [impl_Wire_feed.l0]
   refine Ev.bind hg ?_
   rw [hq]
   simp only [List.length_cons] at ha
   simp only [if_true, if_pos (show acc.length < 1954687338268 by omega), if_pos (show (0 : Int) ≤ (p.2.length : Int) by omega), if_pos (show (p.2.length : Int) ≤ (buf.length : Int) by omega), Int.toNat_natCast]
   rw [List.take_succ_cons, List.map_cons, show acc ++ p.1 :: (ps.take i).map (·.1) = acc ++ [p.1] ++ (ps.take i).map (·.1) by simp]
   exact he
theorem ZeZ (ps : List (S53 × List Int)) (hp : ∀ p ∈ ps, Z0 p) (hn : ps.length ≤ 1048576) (buf b rest : List Int) (h : buf ++ (b ++ rest) = Zq ps) (hr : ∀ x ∈ Zq ps, 0 ≤ x ∧ x < 256) (hl : (Zq ps).length ≤ 1000000) :
  ∃ i buf', i ≤ ps.length ∧ Ev (fun k => impl_Wire_feed.f k buf 0 b) ((ps.take i).map (·.1), buf', 0) ∧ buf' ++ rest = Zq (ps.drop i) ∧ ZcW buf' (ps.drop i) := by
 have hll := congrArg List.length h
 simp only [List.length_append] at hll
 have h' : (buf ++ b) ++ rest = Zq ps := by rw [List.append_assoc]; exact h
 obtain ⟨i, buf', hi, he, h3, h4, h5, h6⟩ := ZdL ps [] (buf ++ b) rest hp h' (fun x hx => hr x (by rw [← h']; exact List.mem_append_left _ hx)) (by rw [List.length_append]; omega) (by simp only [List.length_nil]; omega)
 refine ⟨i, buf', hi, ?_, h3, h4⟩
 unfold impl_Wire_feed.f
 simp only [if_true, ZaF buf (by omega), Option.bind_some, if_pos (show buf.length + b.length < 140737488355328 by omega)]
 rw [List.nil_append] at he
 exact he
theorem Zdn (ps : List (S53 × List Int)) (i : Nat) : (Zq (ps.drop i)).length ≤ (Zq ps).length ∧ ∀ x ∈ Zq (ps.drop i), x ∈ Zq ps := by
 have h : Zq ps = Zq (ps.take i) ++ Zq (ps.drop i) := by
  unfold Zq
  rw [← List.flatMap_append, List.take_append_drop]
 rw [h]
 exact ⟨by rw [List.length_append]; omega, fun x hx => List.mem_append_right _ hx⟩
theorem Zd6 (pcs : List (List Int)) (hpl : pcs.length ≤ 1048576) : ∀ (n j : Nat) (ps : List (S53 × List Int)) (acc : List S53) (buf : List Int), pcs.length - j = n → j ≤ pcs.length → (∀ p ∈ ps, Z0 p) → acc.length + ps.length ≤ 1048576 →
  buf ++ (pcs.drop j).flatten = Zq ps → ZcW buf ps → (∀ x ∈ Zq ps, 0 ≤ x ∧ x < 256) → (Zq ps).length ≤ 1000000 →
  Ev (fun k => impl_FeedAll.l0 k acc pcs (pcs.length : Int) (j : Int) buf 0) ([], 0, acc ++ ps.map (·.1)) := by
 intro n
 induction n with
 | zero =>
  intro j ps acc buf hn hj hp ha h hs hr hl
  have hj' : j = pcs.length := by omega
  subst hj'
  rw [List.drop_length, List.flatten_nil, List.append_nil] at h
  have hps : ps = [] := by
   cases ps with
   | nil => rfl
   | cons p ps =>
    have hs' : buf.length < p.2.length := hs
    rw [h, show Zq (p :: ps) = p.2 ++ Zq ps from rfl, List.length_append] at hs'
    omega
  subst hps
  have hb : buf = [] := hs
  subst hb
  apply ev_succ
  simp only [impl_FeedAll.l0, if_neg (show ¬ (pcs.length : Int) < (pcs.length : Int) by omega)]
  rw [List.map_nil, List.append_nil]
  exact Ev.now _
 | succ n ih =>
  intro j ps acc buf hn hj hp ha h hs hr hl
  have hjl : j < pcs.length := by omega
  have hd : pcs.drop j = pcs[j] :: pcs.drop (j + 1) := List.drop_eq_getElem_cons hjl
  obtain ⟨hrd, _, _, _⟩ := l_drop hd
  have hw : wrap64 ((j : Int) + 1) = ((j + 1 : Nat) : Int) := by rw [wrap_id (by omega) (by omega)]; rfl
  rw [hd, List.flatten_cons] at h
  obtain ⟨i, buf', hi, he, h3, h4⟩ := ZeZ ps hp (by omega) buf pcs[j] _ h hr hl
  obtain ⟨c1, c2⟩ := Zdn ps i
  have hih := ih (j + 1) (ps.drop i) (acc ++ (ps.take i).map (·.1)) buf' (by omega) (by omega) (fun p hx => hp p (List.mem_of_mem_drop hx)) (by rw [List.length_append, List.length_map, List.length_take, List.length_drop]; omega) h3 h4 (fun x hx => hr x (c2 x hx)) (by omega)
  apply ev_succ
  simp only [impl_FeedAll.l0, if_pos (show (j : Int) < (pcs.length : Int) by omega), if_pos (show (0 : Int) ≤ (j : Int) by omega), hw]
  rw [← hrd []] at he
  refine Ev.bind he ?_
  have hlt : acc.length + ((ps.take i).map (·.1)).length < 1954687338268 := by rw [List.length_map, List.length_take]; omega
  simp only [if_pos hlt]
  have e : acc ++ ps.map (·.1) = (acc ++ (ps.take i).map (·.1)) ++ (ps.drop i).map (·.1) := by
   rw [List.append_assoc, ← List.map_append, List.take_append_drop]
  rw [e]
  exact hih
theorem Zd7 (pcs : List (List Int)) (hpl : pcs.length ≤ 1048576) (ps : List (S53 × List Int)) (hp : ∀ p ∈ ps, Z0 p) (hn : ps.length ≤ 1048576) (h : pcs.flatten = Zq ps) (hr : ∀ x ∈ Zq ps, 0 ≤ x ∧ x < 256) (hl : (Zq ps).length ≤ 1000000) : Ev (fun k => impl_FeedAll.f k pcs) ([], 0, ps.map (·.1)) := by
 have hs : ZcW [] ps := by
  cases ps with
  | nil => rfl
  | cons p ps => exact List.length_pos_iff.2 (hp p (by simp)).1
 have := Zd6 pcs hpl _ 0 ps [] [] rfl (Nat.zero_le _) hp (by simp only [List.length_nil]; omega) (by rw [List.drop_zero, List.nil_append]; exact h) hs hr hl
 rw [List.nil_append] at this
 exact this
theorem ZdM (x : Int) : 0 ≤ Go.bits .and .i64 x 255 ∧ Go.bits .and .i64 x 255 ≤ 255 := by
 have h2 : (BitVec.ofInt 64 x).toNat &&& 255 ≤ 255 := Nat.and_le_right
 have h : Go.bits .and .i64 x 255 = IntKind.i64.wrap (((BitVec.ofInt 64 x &&& BitVec.ofInt 64 255).toNat : Nat) : Int) := rfl
 have e : (BitVec.ofInt 64 255).toNat = 255 := by decide
 rw [h, BitVec.toNat_and, e, IntKind.wrap_i64]
 omega
def Dr {α : Type} (f : List Int → Int → Int → Option (α × Int × Int)) (P : α → Prop) : Prop :=
 ∀ (b : List Int) (i h : Int), b.length ≤ 1048576 → 0 ≤ i → i ≤ b.length → ∃ x i' h', f b i h = some (x, i', h') ∧ P x ∧ 0 ≤ i' ∧ i' ≤ b.length
theorem ZeL (l : List Int) (hl : l.length ≤ 1048576) : ∃ h, Ev (fun k => spec_l1New.f k l) (l, (0 : Int), h) := by
 have key : ∀ n i (x : Int), l.length - i = n → ∃ h, Ev (fun k => spec_l1New.l0 k l x (i : Int)) (l, (0 : Int), h) := by
  intro n
  induction n with
  | zero =>
   intro i x hn
   refine ⟨x, ?_⟩
   apply ev_succ; simp only [spec_l1New.l0, if_neg (show ¬ (i : Int) < (l.length : Int) by omega)]; exact Ev.now _
  | succ n ih =>
   intro i x hn
   by_cases h4 : (i : Int) < 4000
   ·obtain ⟨h, hh⟩ := ih (i + 1) (Go.bits .and .i64 (wrap64 ((wrap64 ((wrap64 (x * 137)) + (wrap64 (rd l i)))) + 11)) 1073741823) (by omega)
    refine ⟨h, ?_⟩
    apply ev_succ
    simp only [spec_l1New.l0, if_pos (show (i : Int) < (l.length : Int) by omega), if_pos h4, if_pos (show (0 : Int) ≤ (i : Int) by omega), wrap_id (x := (i : Int) + 1) (by omega) (by omega)]
    exact hh
   ·refine ⟨x, ?_⟩
    apply ev_succ; simp only [spec_l1New.l0, if_pos (show (i : Int) < (l.length : Int) by omega), if_neg h4]; exact Ev.now _
 exact key _ 0 _ rfl
theorem Zbq : Dr spec_l1Byte.f (fun x => 0 ≤ x ∧ x ≤ 255) := by
 intro b i h hb h0 h1
 unfold spec_l1Byte.f
 by_cases q : i < (b.length : Int)
 ·rw [if_pos q, if_pos h0]
  exact ⟨_, _, _, rfl, ZdM _, by rw [wrap_id (by omega) (by omega)]; omega, by rw [wrap_id (by omega) (by omega)]; omega⟩
 ·rw [if_neg q]
  exact ⟨_, _, _, rfl, ZdM _, h0, h1⟩
theorem Za3 (x n : Int) (hx : 0 ≤ x) (hn : 0 < n) : 0 ≤ Int.tmod x n ∧ Int.tmod x n < n := by
 rw [Int.tmod_eq_emod_of_nonneg hx]
 exact ⟨Int.emod_nonneg _ (by omega), Int.emod_lt_of_pos _ hn⟩
theorem ZM (n : Int) : Dr (fun b i h => spec_l1Below.f b i h n) (fun x => 0 ≤ x ∧ (0 < n → x < n)) := by
 intro b i h hb h0 h1
 show ∃ x i' h', spec_l1Below.f b i h n = some (x, i', h') ∧ _
 unfold spec_l1Below.f
 by_cases q : n ≤ 0
 ·rw [if_pos q]
  exact ⟨_, _, _, rfl, ⟨by omega, by omega⟩, h0, h1⟩
 ·rw [if_neg q]
  obtain ⟨x, i1, e1, f1, p1, a1, b1⟩ := Zbq b i h hb h0 h1
  by_cases q1 : n ≤ 256
  ·rw [if_pos q1, f1]
   simp only [Option.bind_some, if_neg (show ¬ n = 0 by omega)]
   have := Za3 x n p1.1 (by omega)
   exact ⟨_, _, _, rfl, ⟨this.1, fun _ => this.2⟩, a1, b1⟩
  ·rw [if_neg q1, f1]
   obtain ⟨y, i2, e2, f2, p2, a2, b2⟩ := Zbq b i1 e1 hb a1 b1
   obtain ⟨z, i3, e3, f3, p3, a3, b3⟩ := Zbq b i2 e2 hb a2 b2
   simp only [Option.bind_some, f2, f3, if_neg (show ¬ n = 0 by omega)]
   rw [wrap_id (x := x * 65536) (by omega) (by omega), wrap_id (x := y * 256) (by omega) (by omega), wrap_id (x := x * 65536 + y * 256) (by omega) (by omega), wrap_id (x := x * 65536 + y * 256 + z) (by omega) (by omega)]
   have := Za3 (x * 65536 + y * 256 + z) n (by omega) (by omega)
   exact ⟨_, _, _, rfl, ⟨this.1, fun _ => this.2⟩, a3, b3⟩
theorem ZN (l : List BA) (hl : 0 < l.length) : Dr (fun b i h => spec_l1Str.f b i h l) (fun x => x ∈ l) := by
 intro b i h hb h0 h1
 obtain ⟨x, i1, e1, f1, p1, a1, b1⟩ := ZM (l.length : Int) b i h hb h0 h1
 have f1' : spec_l1Below.f b i h (l.length : Int) = some (x, i1, e1) := f1
 have hx := p1.2 (by omega)
 show ∃ x i' h', spec_l1Str.f b i h l = some (x, i', h') ∧ _
 unfold spec_l1Str.f
 rw [f1']
 simp only [Option.bind_some, if_pos p1.1, if_pos hx]
 refine ⟨_, _, _, rfl, ?_, a1, b1⟩
 have hn : x.toNat < l.length := by omega
 rw [rdOf, List.getD_eq_getElem?_getD, List.getElem?_eq_getElem hn]
 exact List.getElem_mem hn
theorem Zdo (l : List Int) (hl : 0 < l.length) : Dr (fun b i h => spec_l1Int.f b i h l) (fun x => x ∈ l) := by
 intro b i h hb h0 h1
 obtain ⟨x, i1, e1, f1, p1, a1, b1⟩ := ZM (l.length : Int) b i h hb h0 h1
 have f1' : spec_l1Below.f b i h (l.length : Int) = some (x, i1, e1) := f1
 have hx := p1.2 (by omega)
 show ∃ x i' h', spec_l1Int.f b i h l = some (x, i', h') ∧ _
 unfold spec_l1Int.f
 rw [f1']
 simp only [Option.bind_some, if_pos p1.1, if_pos hx]
 refine ⟨_, _, _, rfl, ?_, a1, b1⟩
 have hn : x.toNat < l.length := by omega
 rw [rd, List.getD_eq_getElem?_getD, List.getElem?_eq_getElem hn]
 exact List.getElem_mem hn
def HdP (l : List S113) : Prop := l.length ≤ 20 ∧ ∀ x ∈ l, x.f0.size ≤ 100 ∧ x.f1.size ≤ 100
theorem ZbU {l : List S113} {x : S113} {n : Nat} (h : HdP l) (hn : l.length ≤ n) (hn9 : n < 20) (h0 : x.f0.size ≤ 100) (h1 : x.f1.size ≤ 100) : HdP (l ++ [x]) ∧ (l ++ [x]).length ≤ n + 1 := by
 refine ⟨⟨by rw [List.length_append]; simp; omega, fun y hy => ?_⟩, by rw [List.length_append]; simp; omega⟩
 rcases List.mem_append.1 hy with hy | hy
 ·exact h.2 y hy
 ·simp only [List.mem_cons, List.not_mem_nil, or_false] at hy
  subst hy; exact ⟨h0, h1⟩
theorem ZaS : ∀ (n : Nat) (x : List S113) (b : List Int) (i h : Int), n ≤ 5 → HdP x → x.length ≤ 9 - n → b.length ≤ 1048576 → 0 ≤ i → i ≤ b.length → ∃ l i' h', Ev (fun k => spec_l3DrawHeads.l0 k x (n : Int) b i h) (l, i', h') ∧ HdP l ∧ l.length ≤ 9 ∧ 0 ≤ i' ∧ i' ≤ b.length
 | 0, x, b, i, h, hn, hx, hl, hb, h0, h1 => by
  refine ⟨x, i, h, ?_, hx, by omega, h0, h1⟩
  apply ev_succ
  simp only [spec_l3DrawHeads.l0, if_neg (show ¬ ((0 : Nat) : Int) > 0 by omega)]
  exact Ev.now _
 | n + 1, x, b, i, h, hn, hx, hl, hb, h0, h1 => by
  obtain ⟨y, i1, e1, f1, p1, a1, b1⟩ := ZN [(⟨#[105, 102]⟩ : BA), (⟨#[100, 101, 112, 116, 104]⟩ : BA), (⟨#[120, 45, 97]⟩ : BA), (⟨#[104, 111, 115, 116]⟩ : BA), (⟨#[105, 102, 45, 109, 97, 116, 99, 104]⟩ : BA)] (by decide) b i h hb h0 h1
  have f1' : spec_l1Str.f b i h _ = some (y, i1, e1) := f1
  have hy : y.size ≤ 9 := (by decide : ∀ x ∈ _, x.size ≤ 9) y p1
  obtain ⟨z, i2, e2, f2, p2, a2, b2⟩ := ZN [(⟨#[]⟩ : BA), (⟨#[48]⟩ : BA), (⟨#[105, 110, 102, 105, 110, 105, 116, 121]⟩ : BA), (⟨#[97, 32, 98]⟩ : BA), (⟨#[34, 118, 49, 34]⟩ : BA), (⟨#[40, 60, 49, 62, 41]⟩ : BA)] (by decide) b i1 e1 hb a1 b1
  have f2' : spec_l1Str.f b i1 e1 _ = some (z, i2, e2) := f2
  have hz : z.size ≤ 9 := (by decide : ∀ x ∈ _, x.size ≤ 9) z p2
  obtain ⟨hx2, hl2⟩ := ZbU (x := ⟨y, z⟩) hx hl (by omega) (by show y.size ≤ 100; omega) (by show z.size ≤ 100; omega)
  obtain ⟨l, i3, e3, f3, p3, q3, a3, b3⟩ := ZaS n (x ++ [⟨y, z⟩]) b i2 e2 (by omega) hx2 (by omega) hb a2 b2
  refine ⟨l, i3, e3, ?_, p3, q3, a3, b3⟩
  apply ev_succ
  have hw : wrap64 (((n + 1 : Nat) : Int) - 1) = (n : Int) := by rw [wrap_id (by omega) (by omega)]; omega
  simp only [spec_l3DrawHeads.l0, if_pos (show ((n + 1 : Nat) : Int) > 0 by omega), f1', f2', Option.bind_some, if_pos (show x.length < 4398046511104 by omega), hw]
  exact f3
theorem Zcu (b : List Int) (i h : Int) (hb : b.length ≤ 1048576) (h0 : 0 ≤ i) (h1 : i ≤ b.length) : ∃ l i' h', Ev (fun k => spec_l3DrawHeads.f k b i h) (l, i', h') ∧ HdP l ∧ l.length ≤ 9 ∧ 0 ≤ i' ∧ i' ≤ b.length := by
 obtain ⟨x, i1, e1, f1, p1, a1, b1⟩ := ZM 3 b i h hb h0 h1
 have f1' : spec_l1Below.f b i h 3 = some (x, i1, e1) := f1
 have hx := p1.2 (by omega)
 have hx0 := p1.1
 obtain ⟨n, rfl⟩ : ∃ n : Nat, x = (n : Int) := ⟨x.toNat, by omega⟩
 obtain ⟨l, i2, e2, f2, p2⟩ := ZaS n [] b i1 e1 (by omega) ⟨by simp, by simp⟩ (by simp) hb a1 b1
 refine ⟨l, i2, e2, ?_, p2⟩
 unfold spec_l3DrawHeads.f
 simp only [f1', Option.bind_some]
 exact f2
def RqP (m p : BA) (l : List S113) (b : BA) : Prop := m.size ≤ 100 ∧ p.size ≤ 100 ∧ HdP l ∧ b.size ≤ 1000
theorem Zer (b : List Int) (i h : Int) (hb : b.length ≤ 1048576) (h0 : 0 ≤ i) (h1 : i ≤ b.length) : ∃ m p l y i' h', Ev (fun k => spec_l3Draw.f k b i h) (m, p, l, y, i', h') ∧ RqP m p l y ∧ l.length ≤ 9 ∧ 0 ≤ i' ∧ i' ≤ b.length := by
 obtain ⟨m, i1, e1, f1, p1, a1, b1⟩ := ZN [(⟨#[71, 69, 84]⟩ : BA), (⟨#[80, 85, 84]⟩ : BA), (⟨#[77, 75, 67, 79, 76]⟩ : BA), (⟨#[68, 69, 76, 69, 84, 69]⟩ : BA), (⟨#[67, 79, 80, 89]⟩ : BA)] (by decide) b i h hb h0 h1
 have f1' : spec_l1Str.f b i h _ = some (m, i1, e1) := f1
 have hm : m.size ≤ 9 := (by decide : ∀ x ∈ _, x.size ≤ 9) m p1
 obtain ⟨p, i2, e2, f2, p2, a2, b2⟩ := ZN [(⟨#[47]⟩ : BA), (⟨#[47, 97]⟩ : BA), (⟨#[47, 97, 47, 98]⟩ : BA), (⟨#[47, 97, 37, 50, 48, 98]⟩ : BA), (⟨#[120]⟩ : BA)] (by decide) b i1 e1 hb a1 b1
 have f2' : spec_l1Str.f b i1 e1 _ = some (p, i2, e2) := f2
 have hp : p.size ≤ 9 := (by decide : ∀ x ∈ _, x.size ≤ 9) p p2
 obtain ⟨l, i3, e3, f3, p3, q3, a3, b3⟩ := Zcu b i2 e2 hb a2 b2
 obtain ⟨y, i4, e4, f4, p4, a4, b4⟩ := ZN [(⟨#[]⟩ : BA), (⟨#[]⟩ : BA), (⟨#[97]⟩ : BA), (⟨#[104, 101, 108, 108, 111]⟩ : BA), (⟨#[60, 97, 47, 62]⟩ : BA), (⟨#[13, 10, 13, 10]⟩ : BA), (⟨#[120, 0, 255]⟩ : BA)] (by decide) b i3 e3 hb a3 b3
 have f4' : spec_l1Str.f b i3 e3 _ = some (y, i4, e4) := f4
 have hy : y.size ≤ 9 := (by decide : ∀ x ∈ _, x.size ≤ 9) y p4
 have f4b : spec_l3Body.f b i3 e3 = some (y, i4, e4) := by unfold spec_l3Body.f; rw [f4']; rfl
 refine ⟨m, p, l, y, i4, e4, ?_, ⟨by omega, by omega, p3, by omega⟩, q3, a4, b4⟩
 unfold spec_l3Draw.f
 simp only [f1', f2', Option.bind_some]
 refine Ev.bind f3 ?_
 simp only [f4b, Option.bind_some]
 exact Ev.now _
def BtP (n : Nat) (l : List Int) : Prop := l.length ≤ n ∧ ∀ x ∈ l, 0 ≤ x ∧ x < 256
theorem Zbr (b : List Int) (h : ∀ x ∈ b, 0 ≤ x ∧ x < 256) : ∀ x ∈ Zs b, 0 ≤ x ∧ x < 256 := by
 intro x hx
 unfold Zs at hx
 split at hx
 ·exact absurd hx (by simp)
 ·simp only [List.mem_append] at hx
  rcases hx with ((hx | hx) | hx) | hx
  ·exact Za1 _ x hx
  ·simp at hx; omega
  ·exact h x hx
  ·simp at hx; omega
theorem ZbV : ∀ (s b : List Int), b.length ≤ 1048576 → (∀ x ∈ b, 0 ≤ x ∧ x < 256) → (Ze b s).length ≤ b.length + 20 * s.length + 25 ∧ ∀ x ∈ Ze b s, 0 ≤ x ∧ x < 256
 | [], b, hb, hr => by
  have := Zay b hb
  rw [Ze]
  refine ⟨by simp only [List.length_append, List.length_cons, List.length_nil]; omega, fun x hx => ?_⟩
  rcases List.mem_append.1 hx with h | h
  ·exact Zbr b hr x h
  ·simp at h; omega
 | n :: r, b, hb, hr => by
  rw [Ze]
  split
  ·have := ZbV r b hb hr
   exact ⟨by rw [List.length_cons]; omega, this.2⟩
  ·have hd : (b.take n.toNat).length + (b.drop n.toNat).length = b.length := by rw [← List.length_append, List.take_append_drop]
   have h1 := ZbV r (b.drop n.toNat) (by omega) (fun x hx => hr x (List.mem_of_mem_drop hx))
   have h2 := Zay (b.take n.toNat) (by omega)
   refine ⟨by rw [List.length_append, List.length_cons]; omega, fun x hx => ?_⟩
   rcases List.mem_append.1 hx with h | h
   ·exact Zbr _ (fun y hy => hr y (List.mem_of_mem_take hy)) x h
   ·exact h1.2 x h
theorem Zes (m p : BA) (l : List S113) (b more : BA) (body : List Int) (n : Nat) (h : BtP n body) : BtP (400 + n) (putV m p l b more body) := by
 refine ⟨by have := ZeH m p l b more body; have := h.1; omega, ?_⟩
 unfold putV
 split
 ·split
  ·simp
  ·intro x hx
   rcases List.mem_append.1 hx with hx | hx
   ·exact bytesOf_range _ x hx
   ·exact h.2 x hx
 ·simp
theorem ZeM {m p : BA} {l : List S113} {b : BA} (h : RqP m p l b) : m.size ≤ 1048576 ∧ p.size ≤ 1048576 ∧ l.length ≤ 1048576 ∧ (∀ x ∈ l, x.f0.size ≤ 1048576 ∧ x.f1.size ≤ 1048576) ∧ b.size ≤ 1048576 :=
 ⟨by have := h.1; omega, by have := h.2.1; omega, by have := h.2.2.1.1; omega, fun x hx => by have := h.2.2.1.2 x hx; omega, by have := h.2.2.2; omega⟩
theorem Zdp : ∀ (n : Nat) (m p : BA) (l : List S113) (y : BA) (b : List Int) (i h : Int), 9 - l.length = n → l.length ≤ 9 → RqP m p l y → b.length ≤ 1048576 → 0 ≤ i → i ≤ b.length → ∃ l' i' h', Ev (fun k => spec_l3Any.l0 k b i h m p l y) (m, p, l', y, i', h') ∧ RqP m p l' y ∧ 0 ≤ i' ∧ i' ≤ b.length
 | n, m, p, l, y, b, i, h, hn, hl, hP, hb, h0, h1 => by
  obtain ⟨v, i1, e1, f1, p1, a1, b1⟩ := ZM 2 b i h hb h0 h1
  have f1' : spec_l1Below.f b i h 2 = some (v, i1, e1) := f1
  have hv := p1.2 (by omega)
  have hv0 := p1.1
  have hw : wrap64 (8 + v) = 8 + v := wrap_id (by omega) (by omega)
  by_cases q : (l.length : Int) < 8 + v
  ·obtain ⟨t, i2, e2, f2, p2, a2, b2⟩ := Zdo [0, 9, 60] (by decide) b i1 e1 hb a1 b1
   have f2' : spec_l1Int.f b i1 e1 _ = some (t, i2, e2) := f2
   have ht : 0 ≤ t ∧ t ≤ 60 := by simp only [List.mem_cons, List.not_mem_nil, or_false] at p2; omega
   match n, hn with
   | 0, hn => omega
   | n + 1, hn =>
   obtain ⟨hP2, hl2⟩ := ZbU (x := ⟨(⟨#[120]⟩ : BA), (⟨#[115, 105, 120, 116, 121, 45, 98, 121, 116, 101, 115, 45, 111, 102, 45, 97, 45, 118, 97, 108, 117, 101, 45, 116, 104, 97, 116, 45, 105, 115, 45, 97, 115, 45, 108, 111, 110, 103, 45, 97, 115, 45, 97, 45, 118, 97, 108, 117, 101, 45, 109, 97, 121, 45, 98, 101, 45, 110, 111, 119]⟩ : BA).extract 0 (t : Int).toNat⟩) hP.2.2.1 (Nat.le_refl l.length) (by omega) (by show (⟨#[120]⟩ : BA).size ≤ 100; decide) (by
    show ((⟨#[115, 105, 120, 116, 121, 45, 98, 121, 116, 101, 115, 45, 111, 102, 45, 97, 45, 118, 97, 108, 117, 101, 45, 116, 104, 97, 116, 45, 105, 115, 45, 97, 115, 45, 108, 111, 110, 103, 45, 97, 115, 45, 97, 45, 118, 97, 108, 117, 101, 45, 109, 97, 121, 45, 98, 101, 45, 110, 111, 119]⟩ : BA).extract 0 t.toNat).size ≤ 100
    rw [ByteArray.size_extract]; omega)
   obtain ⟨l', i3, e3, f3, p3⟩ := Zdp n m p _ y b i2 e2 (by rw [List.length_append]; simp; omega) (by omega) ⟨hP.1, hP.2.1, hP2, hP.2.2.2⟩ hb a2 b2
   refine ⟨l', i3, e3, ?_, p3⟩
   apply ev_succ
   simp only [spec_l3Any.l0, f1', Option.bind_some, hw, if_pos q, f2', if_pos ht.1, if_pos ht.2, if_pos (show l.length < 4398046511104 by omega)]
   exact f3
  ·refine ⟨l, i1, e1, ?_, hP, a1, b1⟩
   apply ev_succ
   simp only [spec_l3Any.l0, f1', Option.bind_some, hw, if_neg q]
   exact Ev.now _
theorem Zdq (b : List Int) (i h : Int) (hb : b.length ≤ 1048576) (h0 : 0 ≤ i) (h1 : i ≤ b.length) : ∃ m p l y i' h', Ev (fun k => spec_l3Any.f k b i h) (m, p, l, y, i', h') ∧ RqP m p l y ∧ 0 ≤ i' ∧ i' ≤ b.length := by
 obtain ⟨m, p, l, y, i1, e1, f1, p1, q1, a1, b1⟩ := Zer b i h hb h0 h1
 obtain ⟨v, i2, e2, f2, p2, a2, b2⟩ := ZM 12 b i1 e1 hb a1 b1
 have f2' : spec_l1Below.f b i1 e1 12 = some (v, i2, e2) := f2
 obtain ⟨pm, pp, pl, py⟩ := p1
 unfold spec_l3Any.f
 by_cases c0 : v = 0
 ·obtain ⟨z, i3, e3, f3, p3, a3, b3⟩ := ZN [(⟨#[]⟩ : BA), (⟨#[103, 101, 116]⟩ : BA), (⟨#[84, 69, 78, 76, 69, 84, 84, 69, 82, 83]⟩ : BA), (⟨#[65, 32, 66]⟩ : BA)] (by decide) b i2 e2 hb a2 b2
  have f3' : spec_l1Str.f b i2 e2 _ = some (z, i3, e3) := f3
  have hz : z.size ≤ 19 := (by decide : ∀ x ∈ _, x.size ≤ 19) z p3
  refine ⟨z, p, l, y, i3, e3, Ev.bind f1 ?_, ⟨by omega, pp, pl, py⟩, a3, b3⟩
  simp only [f2', Option.bind_some, if_pos c0, f3']; exact Ev.now _
 by_cases c1 : v = 1
 ·obtain ⟨z, i3, e3, f3, p3, a3, b3⟩ := ZN [(⟨#[]⟩ : BA), (⟨#[97, 32, 98]⟩ : BA), (⟨#[127]⟩ : BA)] (by decide) b i2 e2 hb a2 b2
  have f3' : spec_l1Str.f b i2 e2 _ = some (z, i3, e3) := f3
  have hz : z.size ≤ 19 := (by decide : ∀ x ∈ _, x.size ≤ 19) z p3
  refine ⟨m, z, l, y, i3, e3, Ev.bind f1 ?_, ⟨pm, by omega, pl, py⟩, a3, b3⟩
  simp only [f2', Option.bind_some, if_neg c0, if_pos c1, f3']; exact Ev.now _
 by_cases c2 : v = 2
 ·obtain ⟨z, i3, e3, f3, p3, a3, b3⟩ := ZN [(⟨#[99, 111, 110, 116, 101, 110, 116, 45, 108, 101, 110, 103, 116, 104]⟩ : BA), (⟨#[88]⟩ : BA), (⟨#[]⟩ : BA), (⟨#[97]⟩ : BA)] (by decide) b i2 e2 hb a2 b2
  have f3' : spec_l1Str.f b i2 e2 _ = some (z, i3, e3) := f3
  have hz : z.size ≤ 19 := (by decide : ∀ x ∈ _, x.size ≤ 19) z p3
  obtain ⟨u, i4, e4, f4, p4, a4, b4⟩ := ZN [(⟨#[32, 97]⟩ : BA), (⟨#[97]⟩ : BA), (⟨#[13, 10]⟩ : BA)] (by decide) b i3 e3 hb a3 b3
  have f4' : spec_l1Str.f b i3 e3 _ = some (u, i4, e4) := f4
  have hu : u.size ≤ 19 := (by decide : ∀ x ∈ _, x.size ≤ 19) u p4
  obtain ⟨hP2, _⟩ := ZbU (x := ⟨z, u⟩) pl q1 (by omega) (by show z.size ≤ 100; omega) (by show u.size ≤ 100; omega)
  refine ⟨m, p, l ++ [⟨z, u⟩], y, i4, e4, Ev.bind f1 ?_, ⟨pm, pp, hP2, py⟩, a4, b4⟩
  simp only [f2', Option.bind_some, if_neg c0, if_neg c1, if_pos c2, f3', f4', if_pos (show l.length < 4398046511104 by omega)]; exact Ev.now _
 by_cases c3 : v = 3
 ·obtain ⟨z, i3, e3, f3, p3, a3, b3⟩ := ZM 2 b i2 e2 hb a2 b2
  have f3' : spec_l1Below.f b i2 e2 2 = some (z, i3, e3) := f3
  have hz := p3.2 (by omega)
  have hz0 := p3.1
  have hw : wrap64 (200 + z) = 200 + z := wrap_id (by omega) (by omega)
  refine ⟨m, p, l, strOfNums (List.replicate (200 + z : Int).toNat 0), i3, e3, Ev.bind f1 ?_, ⟨pm, pp, pl, ?_⟩, a3, b3⟩
  ·simp only [f2', Option.bind_some, if_neg c0, if_neg c1, if_neg c2, if_pos c3, f3', hw, if_pos (show (0 : Int) ≤ 200 + z by omega), if_pos (show (200 + z : Int).toNat ≤ 281474976710656 by omega)]; exact Ev.now _
  ·rw [size_len, bytesOf_strOfNums _ (fun x hx => by rw [List.eq_of_mem_replicate hx]; omega), List.length_replicate]; omega
 by_cases c4 : v = 4
 ·obtain ⟨l', i3, e3, f3, p3, a3, b3⟩ := Zdp (9 - l.length) m p l y b i2 e2 rfl q1 ⟨pm, pp, pl, py⟩ hb a2 b2
  refine ⟨m, p, l', y, i3, e3, Ev.bind f1 ?_, p3, a3, b3⟩
  simp only [f2', Option.bind_some, if_neg c0, if_neg c1, if_neg c2, if_neg c3, if_pos c4]; exact f3
 ·refine ⟨m, p, l, y, i2, e2, Ev.bind f1 ?_, ⟨pm, pp, pl, py⟩, a2, b2⟩
  simp only [f2', Option.bind_some, if_neg c0, if_neg c1, if_neg c2, if_neg c3, if_neg c4]; exact Ev.now _
theorem Zcj : ∀ (n : Nat) (x : List Int) (b : List Int) (i h : Int), n ≤ 5 → x.length ≤ 9 - n → b.length ≤ 1048576 → 0 ≤ i → i ≤ b.length → ∃ l i' h', Ev (fun k => spec_l4Sizes.l0 k x (n : Int) b i h) (l, i', h') ∧ l.length ≤ 9 ∧ 0 ≤ i' ∧ i' ≤ b.length
 | 0, x, b, i, h, hn, hl, hb, h0, h1 => by
  refine ⟨x, i, h, ?_, by omega, h0, h1⟩
  apply ev_succ
  simp only [spec_l4Sizes.l0, if_neg (show ¬ ((0 : Nat) : Int) > 0 by omega)]
  exact Ev.now _
 | n + 1, x, b, i, h, hn, hl, hb, h0, h1 => by
  obtain ⟨y, i1, e1, f1, p1, a1, b1⟩ := Zdo [0, 1, 2, 3, 16, 100, -1] (by decide) b i h hb h0 h1
  have f1' : spec_l1Int.f b i h _ = some (y, i1, e1) := f1
  obtain ⟨l, i3, e3, f3, p3, a3, b3⟩ := Zcj n (x ++ [y]) b i1 e1 (by omega) (by rw [List.length_append, List.length_cons, List.length_nil]; omega) hb a1 b1
  refine ⟨l, i3, e3, ?_, p3, a3, b3⟩
  apply ev_succ
  have hw : wrap64 (((n + 1 : Nat) : Int) - 1) = (n : Int) := by rw [wrap_id (by omega) (by omega)]; omega
  simp only [spec_l4Sizes.l0, if_pos (show ((n + 1 : Nat) : Int) > 0 by omega), f1', Option.bind_some, if_pos (show x.length < 17592186044416 by omega), hw]
  exact f3
theorem Zd8 (b : List Int) (i h : Int) (hb : b.length ≤ 1048576) (h0 : 0 ≤ i) (h1 : i ≤ b.length) : ∃ l i' h', Ev (fun k => spec_l4Sizes.f k b i h) (l, i', h') ∧ l.length ≤ 9 ∧ 0 ≤ i' ∧ i' ≤ b.length := by
 obtain ⟨x, i1, e1, f1, p1, a1, b1⟩ := ZM 4 b i h hb h0 h1
 have f1' : spec_l1Below.f b i h 4 = some (x, i1, e1) := f1
 have hx := p1.2 (by omega)
 have hx0 := p1.1
 obtain ⟨n, rfl⟩ : ∃ n : Nat, x = (n : Int) := ⟨x.toNat, by omega⟩
 obtain ⟨l, i2, e2, f2, p2⟩ := Zcj n [] b i1 e1 (by omega) (by simp) hb a1 b1
 refine ⟨l, i2, e2, ?_, p2⟩
 unfold spec_l4Sizes.f
 simp only [f1', Option.bind_some]
 exact f2
theorem Zff (l : List Int) (hl : l.length ≤ 1048576) (hr : ∀ x ∈ l, 0 ≤ x ∧ x < 256) (a : Int) (h0 : 0 ≤ a) (h9 : a ≤ 1000) : ∃ v, laws_at.f l a = some v ∧ 0 ≤ v ∧ v ≤ 255 := by
 unfold laws_at.f
 by_cases q : a < (l.length : Int)
 ·rw [if_pos q, if_pos h0]
  have hn : a.toNat < l.length := by omega
  have he : rd l a = l[a.toNat] := by rw [rd, List.getD_eq_getElem?_getD, List.getElem?_eq_getElem hn, Option.getD_some]
  have := hr _ (List.getElem_mem hn)
  refine ⟨_, rfl, ?_⟩
  rw [he, wrap_id (by omega) (by omega)]; omega
 ·rw [if_neg q]
  refine ⟨_, rfl, ?_⟩
  rw [wrap_id (x := a * 31) (by omega) (by omega), wrap_id (x := (l.length : Int) * 7) (by omega) (by omega), wrap_id (by omega) (by omega)]
  have := Za3 (a * 31 + (l.length : Int) * 7) 256 (by omega) (by omega)
  omega
theorem Zby (a b : List S113) (ha : a.length ≤ 9223372036854775806) : Ev (fun k => impl_sameHeads.f k a b) (eqb a b) := by
 unfold impl_sameHeads.f
 refine ev_ite (fun q => ?_) (fun q => ?_)
 ·have q' : a.length = b.length := by omega
  refine eq_loop a b (· = ·) q' ha (fun i k => impl_sameHeads.l0 k a b (a.length : Int) (i : Int)) _ ((eqb_iff a b).trans (list_eq_iff a b q')) ?_ ?_
  ·intro i hi
   apply ev_succ; simp only [impl_sameHeads.l0, if_neg (show ¬ (i : Int) < a.length by omega)]; exact Ev.now _
  ·intro i x y v hi hx hy hw1 ih
   have hxx : rd_T113 a (i : Int) = x := hx _
   have hyy : rd_T113 b (i : Int) = y := hy _
   refine ⟨fun hR => ?_, fun hR => ?_⟩
   ·apply ev_succ
    subst hR
    simp only [impl_sameHeads.l0, if_pos (show (i : Int) < a.length by omega), if_pos (show (0 : Int) ≤ i by omega), if_pos (show (i : Int) < b.length by omega), hxx, hyy, hw1, beq_self_eq_true, Bool.not_true, Bool.or_self, Bool.false_eq_true, if_false]; exact ih
   ·apply ev_succ
    simp only [impl_sameHeads.l0, if_pos (show (i : Int) < a.length by omega), if_pos (show (0 : Int) ≤ i by omega), if_pos (show (i : Int) < b.length by omega), hxx, hyy, hw1]
    refine ev_ite (fun _ => Ev.now _) (fun hn => absurd ?_ hn)
    rw [ZeS] at hR
    simp only [Bool.or_eq_true, Bool.not_eq_true', beq_eq_false_iff_ne, ne_eq, toList_iff]
    by_cases e0 : x.f0 = y.f0
    ·exact .inr (fun e1 => hR ⟨e0, e1⟩)
    ·exact .inl e0
 ·rw [eqb_ne (fun h => q (by rw [h]))]; exact Ev.now _
theorem Zd9 (a b : BA) : (a.toList == b.toList) = eqb a b := by
 rw [Bool.eq_iff_iff, beq_iff_eq, toList_iff, eqb_iff]
theorem Zck (m p : BA) (l : List S113) (b : BA) (m' p' : BA) (l' : List S113) (b' : BA) (hl : l.length ≤ 9223372036854775806) : Ev (fun k => impl_SameReq.f k m p l b m' p' l' b') (decb (Zdc m p l b m' p' l' b')) := by
 unfold impl_SameReq.f
 refine ev_ite (fun q => ?_) (fun q => ?_)
 ·rw [toList_iff] at q
  refine ev_ite (fun q0 => ?_) (fun q0 => ?_)
  ·rw [toList_iff] at q0
   refine Ev.bind (Zby l l' hl) (ev_iteB (fun q1 => ?_) (fun q1 => ?_))
   ·rw [eqb_iff] at q1
    rw [Zd9, show eqb b b' = decb (Zdc m p l b m' p' l' b') from eqb_congr2 ⟨fun h => ⟨q, q0, q1, h⟩, fun h => h.2.2.2⟩]; exact Ev.now _
   ·have : ¬ l = l' := fun h => by rw [(eqb_iff l l').mpr h] at q1; cases q1
    rw [decb_false (fun h => this h.2.2.1)]; exact Ev.now _
  ·rw [toList_iff] at q0; rw [decb_false (fun h => q0 h.2.1)]; exact Ev.now _
 ·rw [toList_iff] at q; rw [decb_false (fun h => q h.1)]; exact Ev.now _
theorem ZcT (l : List Int) (h : Int) (hl : l.length ≤ 1048576) (hn : Ev (fun k => spec_l1New.f k l) (l, (0 : Int), h)) : ∃ m p d y, Ev (fun k => spec_DrawPutReq.f k l) (m, p, d, y) ∧ RqP m p d y := by
 obtain ⟨m, p, d, y, i1, e1, f1, p1, a1, b1⟩ := Zdq l 0 h hl (by omega) (by omega)
 refine ⟨m, p, d, y, ?_, p1⟩
 unfold spec_DrawPutReq.f
 exact Ev.bind hn (Ev.bind f1 (Ev.now _))
theorem Zbz (l : List Int) (h : Int) (hl : l.length ≤ 1048576) (hn : Ev (fun k => spec_l1New.f k l) (l, (0 : Int), h)) : ∃ m p d y s, Ev (fun k => spec_DrawPutChunked.f k l) (m, p, d, y, s) ∧ RqP m p d y ∧ s.length ≤ 9 := by
 obtain ⟨m, p, d, y, i1, e1, f1, p1, a1, b1⟩ := Zdq l 0 h hl (by omega) (by omega)
 obtain ⟨s, i3, e3, f3, p3, a3, b3⟩ := Zd8 l i1 e1 hl a1 b1
 refine ⟨m, p, d, y, s, ?_, p1, p3⟩
 unfold spec_DrawPutChunked.f
 exact Ev.bind hn (Ev.bind f1 (Ev.bind f3 (Ev.now _)))
theorem Ze7 (l : List Int) (hl : l.length ≤ 1048576) (hr : ∀ x ∈ l, 0 ≤ x ∧ x < 256) : ∀ (n i : Nat) (b : List Int) (out : List (List Int)), 41 - i = n → i ≤ 40 → b.length ≤ 1048576 → out.length = i → ∃ pcs, Ev (fun k => laws_cut.l0 k l b out (i : Int)) pcs ∧ pcs.flatten = out.flatten ++ b ∧ pcs.length ≤ 42 := by
 intro n
 induction n with
 | zero => intro i b out hn hi _ _; omega
 | succ n ih =>
  intro i b out hn hi hb ho
  have hj0 : Ev (fun k => laws_cut.j1 k l b out (i : Int) false) (out ++ [b]) := by
   apply ev_succ
   simp only [laws_cut.j1, Bool.false_eq_true, if_false, if_pos (show out.length < 5864062014805 by omega)]
   exact Ev.now _
  have hend : (out ++ [b]).flatten = out.flatten ++ b ∧ (out ++ [b]).length ≤ 42 := by
   rw [List.flatten_append, List.length_append]; simp; omega
  by_cases q : 0 < b.length
  ·by_cases q1 : i < 40
   ·have hw : wrap64 ((i : Int) + 9) = (i : Int) + 9 := wrap_id (by omega) (by omega)
    have hw1 : wrap64 ((i : Int) + 1) = ((i + 1 : Nat) : Int) := by rw [wrap_id (by omega) (by omega)]; rfl
    obtain ⟨v, ev, v0, v9⟩ := Zff l hl hr ((i : Int) + 9) (by omega) (by omega)
    have t0 : 0 ≤ Int.tmod v 9 := Int.tmod_nonneg _ v0
    have t1 : Int.tmod v 9 < 9 := Int.tmod_lt_of_pos _ (by omega)
    have hw2 : wrap64 (1 + Int.tmod v 9) = 1 + Int.tmod v 9 := wrap_id (by omega) (by omega)
    obtain ⟨c, hc⟩ : ∃ c : Nat, 1 + Int.tmod v 9 = (c : Int) := ⟨(1 + Int.tmod v 9).toNat, by omega⟩
    rw [hc] at hw2
    have step : ∀ c : Nat, c ≤ b.length → ∃ pcs, Ev (fun k => laws_cut.l0 k l (b.drop c) (out ++ [b.take c]) ((i + 1 : Nat) : Int)) pcs ∧ pcs.flatten = out.flatten ++ b ∧ pcs.length ≤ 42 := by
     intro c hcb
     obtain ⟨pcs, h1, h2, h3⟩ := ih (i + 1) (b.drop c) (out ++ [b.take c]) (by omega) (by omega) (by rw [List.length_drop]; omega) (by rw [List.length_append, List.length_singleton]; omega)
     refine ⟨pcs, h1, ?_, h3⟩
     rw [h2, List.flatten_append]
     simp
    by_cases q2 : (c : Int) > (b.length : Int)
    ·obtain ⟨pcs, h1, h2, h3⟩ := step b.length (Nat.le_refl _)
     refine ⟨pcs, ?_, h2, h3⟩
     apply ev_succ
     simp only [laws_cut.l0, if_pos (show (b.length : Int) > 0 by omega), decide_eq_true (show (i : Int) < 40 by omega)]
     apply ev_succ
     simp only [laws_cut.j1, if_true, hw, ev, Option.bind_some, hw1, hw2, hc, if_pos q2, if_pos (show (0 : Int) ≤ (b.length : Int) by omega), if_pos (Int.le_refl (b.length : Int)), if_pos (show out.length < 5864062014805 by omega), Int.toNat_natCast]
     exact h1
    ·obtain ⟨pcs, h1, h2, h3⟩ := step c (by omega)
     refine ⟨pcs, ?_, h2, h3⟩
     apply ev_succ
     simp only [laws_cut.l0, if_pos (show (b.length : Int) > 0 by omega), decide_eq_true (show (i : Int) < 40 by omega)]
     apply ev_succ
     simp only [laws_cut.j1, if_true, hw, ev, Option.bind_some, hw1, hw2, hc, if_neg q2, if_pos (show (0 : Int) ≤ (c : Int) by omega), if_pos (show (c : Int) ≤ (b.length : Int) by omega), if_pos (show out.length < 5864062014805 by omega), Int.toNat_natCast]
     exact h1
   ·refine ⟨out ++ [b], ?_, hend⟩
    apply ev_succ
    simp only [laws_cut.l0, if_pos (show (b.length : Int) > 0 by omega), decide_eq_false (show ¬ (i : Int) < 40 by omega)]
    exact hj0
  ·refine ⟨out ++ [b], ?_, hend⟩
   apply ev_succ
   simp only [laws_cut.l0, if_neg (show ¬ (b.length : Int) > 0 by omega)]
   exact hj0
theorem Ze8 (l b : List Int) (hl : l.length ≤ 1048576) (hr : ∀ x ∈ l, 0 ≤ x ∧ x < 256) (hb : b.length ≤ 1048576) : ∃ pcs, Ev (fun k => laws_cut.f k l b) pcs ∧ pcs.flatten = b ∧ pcs.length ≤ 42 := by
 obtain ⟨pcs, h1, h2, h3⟩ := Ze7 l hl hr _ 0 b [] rfl (Nat.zero_le _) hb rfl
 exact ⟨pcs, h1, by rw [h2]; rfl, h3⟩
theorem ZdC (a : List S53) (ha : a.length ≤ 1048576) (hh : ∀ r ∈ a, r.f2.length ≤ 1048576) : Ev (fun k => laws_sameReqs.f k a a) true := by
 unfold laws_sameReqs.f
 simp only [if_true]
 refine list_loop_st a (by omega) (fun i (_ : Unit) k => laws_sameReqs.l0 k a a (i : Int)) (fun _ _ _ => true) (fun _ _ r => ∀ x ∈ r, x.f2.length ≤ 1048576) ?_ ?_ 0 () hh
 ·intro i _ _ hi
  apply ev_succ; simp only [laws_sameReqs.l0, if_neg (show ¬ (i : Int) < a.length by omega)]; exact Ev.now _
 ·intro i _ c r hr h hb hi hw1 ih
  have hbb : rd_T53 a (i : Int) = c := hb _
  have ih' := ih () (fun x hx => hr x (by simp [hx]))
  have hs := Zck c.f0 c.f1 c.f2 c.f3 c.f0 c.f1 c.f2 c.f3 (by have := hr c (by simp); omega)
  rw [decb_true ⟨rfl, rfl, rfl, rfl⟩] at hs
  apply ev_succ
  simp only [laws_sameReqs.l0, if_pos (show (i : Int) < (a.length : Int) by omega), if_pos (show (0 : Int) ≤ (i : Int) by omega), hbb, hw1]
  refine Ev.bind hs ?_
  simp only [if_true]
  exact ih'
theorem Zcl (l b : List Int) (hl : l.length ≤ 1048576) (hr : ∀ x ∈ l, 0 ≤ x ∧ x < 256) (ps : List (S53 × List Int)) (hp : ∀ p ∈ ps, Z0 p ∧ p.1.f2.length ≤ 1048576) (hn : ps.length ≤ 2) (h : b = Zq ps) (hb : ∀ x ∈ b, 0 ≤ x ∧ x < 256) (hbl : b.length ≤ 1000000) : Ev (fun k => laws_FnPipes.j1 k l b (ps.map (·.1))) true := by
 obtain ⟨pcs, c1, c2, c3⟩ := Ze8 l b hl hr (by omega)
 have hf := Zd7 pcs (by omega) ps (fun p hx => (hp p hx).1) (by omega) (c2.trans h) (by rw [← h]; exact hb) (by rw [← h]; exact hbl)
 have hs := ZdC (ps.map (·.1)) (by rw [List.length_map]; omega) (fun r hx => by
  obtain ⟨p, hpm, rfl⟩ := List.mem_map.1 hx
  exact (hp p hpm).2)
 apply ev_succ
 simp only [laws_FnPipes.j1]
 refine Ev.bind c1 (Ev.bind hf (Ev.bind hs ?_))
 have he : Ev (fun k => (impl_HeadEnd.f b).bind fun t => (spec_HeadEnd.f k b).bind fun u => some (t == u)) true := by
  simp only [ZaG b hb, Option.bind_some]
  refine Ev.bind (Zb1 b (by omega) hb) ?_
  rw [beq_self_eq_true]; exact Ev.now _
 simp only [if_true, List.length_nil, if_pos (show ((0 : Nat) : Int) = 0 from rfl)]
 refine ev_ite (fun _ => he) (fun q => ?_)
 have hp0 : ps = [] := by
  rw [List.length_map] at q
  exact List.eq_nil_of_length_eq_zero (by omega)
 have hb0 : b = [] := by rw [h, hp0]; rfl
 simp only [if_pos (show (b.length : Int) = 0 by rw [hb0]; rfl)]
 exact he
theorem FnPipes : laws_FnPipes.Pure := by
 intro l hl0 _
 apply Ev.rounds
 unfold laws_FnPipes.f laws_big.f
 simp only [Option.bind_some]
 refine ev_iteB (fun _ => Ev.now _) (fun q => ?_)
 have hl : l.length ≤ 1048576 := by
  have := of_decide_eq_false q
  omega
 have hr := Zet hl0.2
 obtain ⟨h, hn⟩ := ZeL l hl
 obtain ⟨m, u, d, y, e1, hq⟩ := ZcT l h hl hn
 obtain ⟨m2, u2, d2, y2, z, e2, hq2, hz⟩ := Zbz l h hl hn
 obtain ⟨s1, s2, s3, s4, s5⟩ := ZeM hq
 obtain ⟨r1, r2, r3, r4, r5⟩ := ZeM hq2
 have pi := Zcr m u d y s1 s2 s3 s4 s5
 have ps := Zcq m u d y s1 s2 s3 s4 s5
 have ci := Zbp m2 u2 d2 y2 z r1 r2 r3 r4 r5 (by omega)
 have cs := Zbo m2 u2 d2 y2 z r1 r2 r3 r4 r5 (by omega)
 have hy1 := bytesOf_length y
 have hy2 := bytesOf_length y2
 have hys := hq.2.2.2
 have hys2 := hq2.2.2.2
 have hV : BtP (400 + 2000) (putReqV m u d y) := Zes m u d y _ _ 2000 ⟨by omega, bytesOf_range y⟩
 have hZ := ZbV z (bytesOf y2) (by omega) (bytesOf_range y2)
 have hC : BtP (400 + 2000) (putV m2 u2 d2 y2 TEl (Ze (bytesOf y2) z)) := Zes m2 u2 d2 y2 TEl (Ze (bytesOf y2) z) 2000 ⟨by have := hZ.1; omega, hZ.2⟩
 have rp := fun h y' => ZeJ (m := m) (p := u) (hs := d) (b := y) h y'
 have rc := fun h y' => Zep (m := m2) (p := u2) (hs := d2) (b := y2) (s := z) h y'
 generalize putReqV m u d y = P at pi ps hV rp
 generalize putV m2 u2 d2 y2 TEl (Ze (bytesOf y2) z) = C at ci cs hC rc
 have hPl := hV.1
 have hCl := hC.1
 have hbr : ∀ x ∈ P ++ C, 0 ≤ x ∧ x < 256 := fun x hx => (List.mem_append.1 hx).elim (hV.2 x) (hC.2 x)
 have hbl : (P ++ C).length ≤ 1000000 := by rw [List.length_append]; omega
 have aP : P ≠ [] → Z0 ((⟨m, u, d, y⟩ : S53), P) ∧ (⟨m, u, d, y⟩ : S53).f2.length ≤ 1048576 := fun h => ⟨⟨h, fun y' => rp h y'⟩, s3⟩
 have aC : C ≠ [] → Z0 ((⟨m2, u2, d2, y2⟩ : S53), C) ∧ (⟨m2, u2, d2, y2⟩ : S53).f2.length ≤ 1048576 := fun h => ⟨⟨h, fun y' => rc h y'⟩, r3⟩
 have jj : ∀ (qs : List (S53 × List Int)), (∀ p ∈ qs, Z0 p ∧ p.1.f2.length ≤ 1048576) → qs.length ≤ 1 → P = Zq qs → Ev (fun k => laws_FnPipes.j0 k l z (P ++ C) (qs.map (·.1)) m2 u2 d2 y2) true := by
  intro qs hqs hql hP
  apply ev_succ
  simp only [laws_FnPipes.j0]
  refine Ev.bind cs ?_
  by_cases hC0 : C = []
  ·simp only [if_neg (show ¬ (C.length : Int) > 0 by rw [hC0]; decide)]
   exact Zcl l (P ++ C) hl hr qs hqs (by omega) (by rw [hC0, List.append_nil]; exact hP) hbr hbl
  ·have hc1 : 0 < C.length := List.length_pos_iff.2 hC0
   simp only [if_pos (show (C.length : Int) > 0 by omega), List.length_map, if_pos (show qs.length < 1954687338268 by omega)]
   have := Zcl l (P ++ C) hl hr (qs ++ [((⟨m2, u2, d2, y2⟩ : S53), C)]) (fun p hx => (List.mem_append.1 hx).elim (hqs p) (fun h => by rw [List.mem_singleton.1 h]; exact aC hC0)) (by rw [List.length_append, List.length_singleton]; omega) (by unfold Zq at hP ⊢; rw [List.flatMap_append, ← hP]; simp) hbr hbl
   rw [List.map_append] at this
   exact this
 refine Ev.bind e1 (Ev.bind e2 (Ev.bind pi ?_))
 simp only [List.length_nil, List.nil_append, if_pos (show 0 + P.length < 140737488355328 by omega)]
 refine Ev.bind ci ?_
 simp only [if_pos (show P.length + C.length < 140737488355328 by omega)]
 refine Ev.bind ps ?_
 by_cases hP0 : P = []
 ·simp only [if_neg (show ¬ (P.length : Int) > 0 by rw [hP0]; decide)]
  exact jj [] (fun p hx => absurd hx (by simp)) (Nat.zero_le _) (by rw [hP0]; rfl)
 ·have hp1 : 0 < P.length := List.length_pos_iff.2 hP0
  simp only [if_pos (show (P.length : Int) > 0 by omega), if_pos (show 0 < 1954687338268 by decide)]
  exact jj [((⟨m, u, d, y⟩ : S53), P)] (fun p hx => by rw [List.mem_singleton.1 hx]; exact aP hP0) (by simp) (by simp [Zq])
end Go.Proofs.YtaajhdljdmbhhaaGreatDoor.Pure
