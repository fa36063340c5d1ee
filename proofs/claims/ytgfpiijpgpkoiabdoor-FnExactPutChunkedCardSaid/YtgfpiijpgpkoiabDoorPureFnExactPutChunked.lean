/- The program's PutChunked answers as the reference's does, for all requests and sizes; no condition. -/
import Derived.Test.YtgfpiijpgpkoiabDoorGFnExactPutChunkedx8
import Derived.Test.YtgfpiijpgpkoiabDoorBase
import Derived.Lib.SlTrimSet
import Derived.Lib.Bytealg
import Derived.Lib.ItoaNum
namespace Go.Proofs.YtgfpiijpgpkoiabDoor.Pure
open Go.RowKit Go.Proofs.YtgfpiijpgpkoiabDoor.GFnExactPutChunked Go.Proofs.YtgfpiijpgpkoiabDoor.Base Go.Proofs.YtgfpiijpgpkoiabDoorW.PrintWords Go.Proofs.YtgfpiijpgpkoiabDoorW.PrintLast
set_option linter.unusedVariables false
set_option linter.unusedSimpArgs false


/-- what is left of a measure behind heads; -1: nothing -/
def szHL : Int → List S122 → Int
  | left, [] => left
  | left, c :: r => if left - c.f0.size < 0 then -1 else if left - c.f0.size - c.f1.size < 0 then -1 else szHL (left - c.f0.size - c.f1.size) r
def szHeads (left : Int) (l : List S122) : Int := if left - l.length < 0 then -1 else szHL (left - l.length) l
theorem szHL_le : ∀ (l : List S122) (left : Int), 0 ≤ szHL left l → 0 ≤ left → szHL left l ≤ left ∧ ∀ x ∈ l, (x.f0.size : Int) ≤ left ∧ (x.f1.size : Int) ≤ left
  | [], left, h, _ => ⟨Int.le_refl _, fun x hx => by cases hx⟩
  | c :: r, left, h, h0 => by
    simp only [szHL] at h ⊢
    by_cases q : left - c.f0.size < 0
    · rw [if_pos q] at h; omega
    · rw [if_neg q] at h ⊢
      by_cases q2 : left - c.f0.size - c.f1.size < 0
      · rw [if_pos q2] at h; omega
      · rw [if_neg q2] at h ⊢
        have := szHL_le r (left - c.f0.size - c.f1.size) h (by omega)
        refine ⟨by omega, fun x hx => ?_⟩
        rcases List.mem_cons.mp hx with rfl | hx
        · omega
        · have := this.2 x hx; omega
theorem szHeads_le {left : Int} {l : List S122} (h : ¬ szHeads left l < 0) : (l.length : Int) ≤ left ∧ szHeads left l ≤ left ∧ ∀ x ∈ l, (x.f0.size : Int) ≤ left ∧ (x.f1.size : Int) ≤ left := by
  unfold szHeads at h ⊢
  by_cases q : left - l.length < 0
  · rw [if_pos q] at h; omega
  · rw [if_neg q] at h ⊢
    have := szHL_le l (left - l.length) (by omega) (by omega)
    exact ⟨by omega, by omega, fun x hx => by have := this.2 x hx; omega⟩
theorem szHeadS_ev (l : List S122) (left : Int) (hl : l.length ≤ 9223372036854775807 ∧ ∀ x ∈ l, (x.f0.size ≤ 9223372036854775807) ∧ (x.f1.size ≤ 9223372036854775807)) (h0 : 0 ≤ left) (h1 : left ≤ 1048576) : Ev (fun k => laws_szHeadS.f k l left) (szHeads left l) := by
  unfold laws_szHeadS.f szHeads
  rw [wrap_id (x := left - l.length) (by omega) (by omega)]
  refine ev_ite (fun q => ?_) (fun q => ?_)
  · rw [if_pos q]; exact Ev.now _
  · rw [if_neg q]
    refine list_loop_st l (by omega) (fun i x k => laws_szHeadS.l0 k l x (i : Int)) (fun _ x r => szHL x r) (fun i x r => 0 ≤ x ∧ x ≤ 1048576 ∧ ∀ c ∈ r, (c.f0.size ≤ 9223372036854775807) ∧ (c.f1.size ≤ 9223372036854775807)) ?_ ?_ 0 _ ⟨by omega, by omega, hl.2⟩
    · intro i x _ hi
      apply ev_succ; simp only [laws_szHeadS.l0, if_neg (show ¬ (i : Int) < l.length by omega)]; exact Ev.now _
    · intro i x c r ⟨hx0, hx1, hr⟩ h hb hi hw1 ih
      have hcs := hr c (by simp)
      have hbb : rd_T122 l (i : Int) = c := hb _
      apply ev_succ
      simp only [laws_szHeadS.l0, if_pos (show (i : Int) < l.length by omega), if_pos (show (0 : Int) ≤ i by omega), hbb, hw1, laws_szHead.f, szHL]
      rw [wrap_id (x := x - c.f0.size) (by omega) (by omega)]
      by_cases q0 : x - c.f0.size < 0
      · simp only [if_pos q0, Option.bind_some, if_pos (show (-1 : Int) < 0 by omega)]; exact Ev.now _
      · simp only [if_neg q0]
        rw [wrap_id (x := x - c.f0.size - c.f1.size) (by omega) (by omega)]
        by_cases q1 : x - c.f0.size - c.f1.size < 0
        · simp only [if_pos q1, Option.bind_some, if_pos (show (-1 : Int) < 0 by omega)]; exact Ev.now _
        · simp only [if_neg q1, Option.bind_some]
          exact ih _ ⟨by omega, by omega, fun d hd => hr d (by simp [hd])⟩
def toH (x : S122) : S102 := ⟨x.f0, x.f1⟩
theorem toHeadS_ev (l : List S122) (hl : l.length ≤ 8796093022208) : Ev (fun k => laws_toHeadS.f k l) (l.map toH) := by
  unfold laws_toHeadS.f
  simp only [if_pos (show (0 : Int) ≤ (l.length : Int) by omega), Int.toNat_natCast, if_pos hl]
  refine fill_loop l toH z102 (by omega) (fun i x k => laws_toHeadS.l0 k l x (i : Int)) ?_ ?_
  · intro i x hi
    apply ev_succ; simp only [laws_toHeadS.l0, if_neg (show ¬ (i : Int) < l.length by omega)]; exact Ev.now _
  · intro i x c r hi hx hb hw1 ih
    have hbb : rd_T122 l (i : Int) = c := hb _
    apply ev_succ
    simp only [laws_toHeadS.l0, if_pos (show (i : Int) < l.length by omega), if_pos (show (0 : Int) ≤ i by omega), if_pos (show (i : Int) < x.length by omega), hbb, hw1, laws_toHead.f, Option.bind_some]
    exact ih
theorem head_eq (x y : S102) : x = y ↔ x.f0 = y.f0 ∧ x.f1 = y.f1 := by cases x; cases y; simp
theorem eqHeadS_ev (a b : List S102) (ha : a.length ≤ 9223372036854775806) : Ev (fun k => laws_eqHeadS.f k a b) (eqb a b) := by
  unfold laws_eqHeadS.f
  refine ev_ite (fun q => ?_) (fun q => ?_)
  · have q' : a.length = b.length := by omega
    refine eq_loop a b (· = ·) q' ha (fun i k => laws_eqHeadS.l0 k a b (i : Int)) _ ((eqb_iff a b).trans (list_eq_iff a b q')) ?_ ?_
    · intro i hi
      apply ev_succ; simp only [laws_eqHeadS.l0, if_neg (show ¬ (i : Int) < a.length by omega)]; exact Ev.now _
    · intro i x y v hi hx hy hw1 ih
      have hxx : rd_T102 a (i : Int) = x := hx _
      have hyy : rd_T102 b (i : Int) = y := hy _
      refine ⟨fun hR => ?_, fun hR => ?_⟩
      · apply ev_succ
        subst hR
        simp only [laws_eqHeadS.l0, if_pos (show (i : Int) < a.length by omega), if_pos (show (0 : Int) ≤ i by omega), if_pos (show (i : Int) < b.length by omega), hxx, hyy, hw1, laws_eqHead.f, if_true, Option.bind_some]; exact ih
      · apply ev_succ
        simp only [laws_eqHeadS.l0, if_pos (show (i : Int) < a.length by omega), if_pos (show (0 : Int) ≤ i by omega), if_pos (show (i : Int) < b.length by omega), hxx, hyy, hw1, laws_eqHead.f, toList_iff]
        by_cases e0 : x.f0 = y.f0
        · by_cases e1 : x.f1 = y.f1
          · exact absurd ((head_eq x y).mpr ⟨e0, e1⟩) hR
          · simp only [if_pos e0, if_neg e1, Option.bind_some]; simpa using Ev.now false
        · simp only [if_neg e0, Option.bind_some]; simpa using Ev.now false
  · rw [eqb_ne (fun h => q (by rw [h]))]; exact Ev.now _

def lenB (s : ByteArray) (a b : Int) : Bool := decide (a ≤ (s.size : Int)) && decide ((s.size : Int) ≤ b)

/-- byte classes -/
def plainC (c : Int) : Bool := decide (32 ≤ c) && decide (c ≤ 126)
def smallC (c : Int) : Bool := decide (97 ≤ c) && decide (c ≤ 122)
def digitC (c : Int) : Bool := decide (48 ≤ c) && decide (c ≤ 57)
def largeC (c : Int) : Bool := decide (65 ≤ c) && decide (c ≤ 90)

theorem in_eq (c a b : Int) : impl_in.f c a b = some (decide (a ≤ c) && decide (c ≤ b)) := by
  unfold impl_in.f; split <;> simp [*] <;> omega

theorem isSmall_eq (c : Int) : impl_isSmall.f c = some (smallC c) := by
  unfold impl_isSmall.f smallC; split <;> simp [*] <;> omega

theorem isDigit_eq (c : Int) : impl_isDigit.f c = some (digitC c) := by
  unfold impl_isDigit.f digitC; split <;> simp [*] <;> omega

theorem l1In_eq (c a b : Int) : spec_l1In.f c a b = some (decide (a ≤ c) && decide (c ≤ b)) := by
  unfold spec_l1In.f; split <;> simp [*] <;> omega

theorem l1Small_eq (c : Int) (h : wrap64 c = c) : spec_l1Small.f c = some (smallC c) := by
  unfold spec_l1Small.f; rw [h, l1In_eq]; rfl

theorem l1Digit_eq (c : Int) (h : wrap64 c = c) : spec_l1Digit.f c = some (digitC c) := by
  unfold spec_l1Digit.f; rw [h, l1In_eq]; rfl

/-- a small name -/
def snC (first : Bool) (c : Int) : Bool := smallC c || (!first && (digitC c || decide (c = 45)))
def snB : Nat → List Int → Bool
  | _, [] => true
  | i, c :: r => snC (i == 0) c && snB (i + 1) r
def smallName (s : ByteArray) : Bool := snB 0 (bytesOf s) && lenB s 1 20
theorem impl_SmallName_ev (s : ByteArray) (hs : s.size ≤ 140737488351232) : Ev (fun k => impl_SmallName.f k s) (smallName s) := by
  refine str_loop_st s (fun i (_ : Unit) k => impl_SmallName.l0 k s (i : Int)) (fun i _ r => snB i r && lenB s 1 20) (fun _ _ _ => True) ?_ ?_ hs 0 () trivial
  · intro i _ _ hi
    apply ev_succ; simp only [impl_SmallName.l0, if_neg (show ¬ (i : Int) < s.size by omega), in_eq, Option.bind_some]; exact Ev.now _
  · intro i _ c r _ h hb hi hw hw1 ih
    replace ih := ih () trivial
    apply ev_succ
    simp only [impl_SmallName.l0, if_pos (show (i : Int) < s.size by omega), if_pos (show (0 : Int) ≤ i by omega), hb, isSmall_eq, isDigit_eq, Option.bind_some, hw1]
    refine ev_iteB (fun q => ?_) (fun q => ev_ite (fun q0 => ?_) (fun q0 => ?_))
    · simpa [snB, snC, q] using ih
    · have : i = 0 := by omega
      subst this; simpa [snB, snC, q] using Ev.now false
    · have hi0 : (i == 0) = false := by simp; omega
      refine ev_iteB (fun q1 => ?_) (fun q1 => ev_ite (fun q2 => ?_) (fun q2 => ?_))
      · simpa [snB, snC, q, hi0, q1] using ih
      · subst q2; simpa [snB, snC, q, hi0, q1] using ih
      · simpa [snB, snC, q, hi0, q1, q2] using Ev.now false
theorem spec_SmallName_ev (s : ByteArray) (hs : s.size ≤ 140737488351232) : Ev (fun k => spec_SmallName.f k s) (smallName s) := by
  refine str_loop_st s (fun i (_ : Unit) k => spec_SmallName.l0 k s (i : Int)) (fun i _ r => snB i r && lenB s 1 20) (fun _ _ _ => True) ?_ ?_ hs 0 () trivial
  · intro i _ _ hi
    apply ev_succ; simp only [spec_SmallName.l0, if_neg (show ¬ (i : Int) < s.size by omega), l1In_eq, Option.bind_some]; exact Ev.now _
  · intro i _ c r _ h hb hi hw hw1 ih
    replace ih := ih () trivial
    apply ev_succ
    simp only [spec_SmallName.l0, if_pos (show (i : Int) < s.size by omega), if_pos (show (0 : Int) ≤ i by omega), hb, l1Small_eq c hw, l1Digit_eq c hw, Option.bind_some, hw1]
    refine ev_iteB (fun q => ?_) (fun q => ev_ite (fun q0 => ?_) (fun q0 => ?_))
    · simpa [snB, snC, q] using ih
    · have : i = 0 := by omega
      subst this; simpa [snB, snC, q] using Ev.now false
    · have hi0 : (i == 0) = false := by simp; omega
      refine ev_iteB (fun q1 => ?_) (fun q1 => ev_ite (fun q2 => ?_) (fun q2 => ?_))
      · simpa [snB, snC, q, hi0, q1] using ih
      · subst q2; simpa [snB, snC, q, hi0, q1] using ih
      · simpa [snB, snC, q, hi0, q1, q2] using Ev.now false

theorem isPlain_eq (c : Int) : impl_isPlain.f c = some (plainC c) := by
  unfold impl_isPlain.f plainC; split <;> simp [*] <;> omega
def plainB (l : List Int) : Bool := l.all plainC
theorem impl_Plain_ev (s : ByteArray) (hs : s.size ≤ 140737488351232) : Ev (fun k => impl_Plain.f k s) (plainB (bytesOf s)) := by
  refine str_loop s (fun i k => impl_Plain.l0 k s (i : Int)) plainB ?_ ?_ hs 0
  · intro i hi
    apply ev_succ; simp only [impl_Plain.l0, if_neg (show ¬ (i : Int) < s.size by omega)]; exact Ev.now _
  · intro i c r h hb hi hw hw1 ih
    apply ev_succ
    simp only [impl_Plain.l0, if_pos (show (i : Int) < s.size by omega), if_pos (show (0 : Int) ≤ i by omega), hb, isPlain_eq, Option.bind_some, hw1]
    refine ev_ite (fun h => ?_) (fun h => ?_)
    · simpa [plainB, h] using ih
    · simpa [plainB, h] using Ev.now _
theorem spec_Plain_ev (s : ByteArray) (hs : s.size ≤ 140737488351232) : Ev (fun k => spec_Plain.f k s) (plainB (bytesOf s)) := by
  refine str_loop s (fun i k => spec_Plain.l0 k s (i : Int)) plainB ?_ ?_ hs 0
  · intro i hi
    apply ev_succ; simp only [spec_Plain.l0, if_neg (show ¬ (i : Int) < s.size by omega)]; exact Ev.now _
  · intro i c r h hb hi hw hw1 ih
    apply ev_succ
    simp only [spec_Plain.l0, if_pos (show (i : Int) < s.size by omega), if_pos (show (0 : Int) ≤ i by omega), hb, hw, l1In_eq, Option.bind_some, hw1]
    refine ev_ite (fun h => ?_) (fun h => ?_)
    · have : plainC c = true := h
      simpa [plainB, this] using ih
    · have : plainC c = false := by simpa [plainC] using h
      simpa [plainB, this] using Ev.now _

def blankC (c : Int) : Bool := decide (c = 32) || decide (c = 9)
def trimL (l : List Int) : List Int := l.dropWhile blankC
def trimR (l : List Int) : List Int := (l.reverse.dropWhile blankC).reverse
theorem trimR_cons (c : Int) (r : List Int) : trimR (c :: r) = if trimR r = [] then (if blankC c = true then [] else [c]) else c :: trimR r := by
  unfold trimR
  rw [List.reverse_cons, List.dropWhile_append]
  by_cases h : r.reverse.dropWhile blankC = []
  · rw [h]
    by_cases q : blankC c = true
    · simp [q]
    · simp [q]
  · have : (r.reverse.dropWhile blankC).isEmpty = false := by simpa using h
    rw [this]
    simp [h]
theorem trim_comm : ∀ l : List Int, trimL (trimR l) = trimR (trimL l)
  | [] => rfl
  | c :: r => by
    have ih := trim_comm r
    rw [trimR_cons]
    by_cases q : blankC c = true
    · have e : trimL (c :: r) = trimL r := by unfold trimL; rw [List.dropWhile_cons_of_pos q]
      rw [e, ← ih]
      by_cases h : trimR r = []
      · rw [if_pos h, if_pos q, h]
      · rw [if_neg h]
        unfold trimL; rw [List.dropWhile_cons_of_pos q]
    · have e : ∀ x : List Int, trimL (c :: x) = c :: x := fun x => by unfold trimL; rw [List.dropWhile_cons_of_neg q]
      rw [e, trimR_cons]
      by_cases h : trimR r = []
      · rw [if_pos h, if_neg q]; exact e []
      · rw [if_neg h]; exact e _
def trim (s : ByteArray) : ByteArray := strOfNums (trimL (trimR (bytesOf s)))
theorem mem_trim {l : List Int} {x : Int} (h : x ∈ trimL (trimR l)) : x ∈ l := by
  unfold trimL trimR at h
  have h1 := (List.dropWhile_sublist _).subset h
  have h2 := (List.dropWhile_sublist _).subset (List.mem_reverse.1 h1)
  exact List.mem_reverse.1 h2
theorem trim_bytes (s : ByteArray) : bytesOf (trim s) = trimL (trimR (bytesOf s)) := bytesOf_strOfNums _ (fun x hx => bytesOf_range s x (mem_trim hx))
theorem trim_size (s : ByteArray) : (trim s).size ≤ s.size := by
  rw [size_len, trim_bytes, size_len]
  unfold trimL trimR
  have h1 := (List.dropWhile_sublist blankC (l := ((bytesOf s).reverse.dropWhile blankC).reverse)).length_le
  have h2 := (List.dropWhile_sublist blankC (l := (bytesOf s).reverse)).length_le
  simp only [List.length_reverse] at h1 h2
  omega
theorem dropWhile_map_ {α β : Type} (f : α → β) (p : β → Bool) : ∀ l : List α, (l.map f).dropWhile p = (l.dropWhile (fun x => p (f x))).map f
  | [] => rfl
  | x :: r => by
    rw [List.map_cons]
    by_cases q : p (f x) = true
    · rw [List.dropWhile_cons_of_pos q, List.dropWhile_cons_of_pos (by exact q), dropWhile_map_ f p r]
    · rw [List.dropWhile_cons_of_neg q, List.dropWhile_cons_of_neg (by exact q), List.map_cons]
theorem blank_u8 (b : UInt8) : ([32, 9] : List UInt8).contains b = blankC (b.toNat : Int) := by
  have H : ∀ n : Fin 256, ([32, 9] : List UInt8).contains (UInt8.ofNat n.val) = blankC (n.val : Int) := by decide +kernel
  have := H ⟨b.toNat, b.toNat_lt⟩
  simpa using this
theorem impl_Trim_eq (s : ByteArray) (hs : s.size ≤ 140737488351232) : impl_Trim.f s = some (trim s) := by
  unfold impl_Trim.f strings_Trim.f
  rw [if_pos ⟨by omega, by decide, by decide⟩]
  simp only [Option.bind_some]
  congr 1
  apply bytesOf_inj
  rw [trim_bytes, bytesOf_mk]
  unfold Lib.trimS Lib.trimLeftS Lib.trimRightS trimL trimR bytesOf
  have e : (fun x : UInt8 => ([32, 9] : List UInt8).contains x) = fun x => blankC (x.toNat : Int) := funext blank_u8
  show List.map _ (List.dropWhile (fun x => ([32, 9] : List UInt8).contains x) (List.dropWhile (fun x => ([32, 9] : List UInt8).contains x) s.data.toList.reverse).reverse) = _
  rw [e, ← List.map_reverse, dropWhile_map_, ← List.map_reverse, dropWhile_map_]
theorem l1Blank_eq (c : Int) : spec_l1Blank.f c = some (blankC c) := by
  unfold spec_l1Blank.f blankC
  by_cases h : c = 32
  · rw [if_pos h]; simp [h]
  · rw [if_neg h]; simp [h]; rfl
theorem bytesOf_one {x : ByteArray} {c : Int} {r : List Int} (h : bytesOf x = c :: r) : bt x 0 = c ∧ bytesOf (x.extract 1 x.size) = r ∧ x.size = r.length + 1 := by
  have hd : (bytesOf x).drop 0 = c :: r := by simpa using h
  obtain ⟨h1, h2, h3⟩ := bt_drop hd
  refine ⟨by simpa using h1, ?_, by rw [size_len, h]; rfl⟩
  rw [bytesOf_extract, List.take_of_length_le (by rw [← size_len]; exact Nat.le_refl _)]
  exact h3
theorem bytesOf_last {x : ByteArray} {c : Int} {r : List Int} (h : bytesOf x = r ++ [c]) : bt x (r.length : Int) = c ∧ bytesOf (x.extract 0 r.length) = r ∧ x.size = r.length + 1 := by
  have hd : (bytesOf x).drop r.length = [c] := by rw [h]; simp
  obtain ⟨h1, h2, h3⟩ := bt_drop hd
  refine ⟨h1, ?_, by rw [size_len, h]; simp⟩
  rw [bytesOf_extract, h]
  simp
theorem spec_Trim_l1 : ∀ (l : List Int) (x : ByteArray), bytesOf x = l.reverse → x.size ≤ 1048576 → Ev (fun k => spec_Trim.l1 k x) (strOfNums (trimR (bytesOf x)))
  | [], x, h, hs => by
    have h0 : x.size = 0 := by rw [size_len, h]; rfl
    apply ev_succ; simp only [spec_Trim.l1, if_neg (show ¬ (x.size : Int) > 0 by omega)]
    rw [h]
    have : x = strOfNums (trimR ([] : List Int).reverse) := by rw [← strOfNums_bytesOf x, h]; rfl
    rw [← this]; exact Ev.now _
  | c :: r, x, h, hs => by
    rw [List.reverse_cons] at h
    obtain ⟨h1, h2, h3⟩ := bytesOf_last h
    rw [List.length_reverse] at h1 h2 h3
    apply ev_succ
    simp only [spec_Trim.l1, if_pos (show (x.size : Int) > 0 by omega), show wrap64 ((x.size : Int) - 1) = (r.length : Int) from by rw [wrap_id (by omega) (by omega)]; omega, if_pos (show (0 : Int) ≤ (r.length : Int) by omega), if_pos (show (r.length : Int) < (x.size : Int) by omega), if_pos (show (r.length : Int) ≤ (x.size : Int) by omega), h1, l1Blank_eq, Option.bind_some, Int.toNat_natCast]
    refine ev_iteB (fun q => ?_) (fun q => ?_)
    · have ih := spec_Trim_l1 r (x.extract 0 r.length) h2 (by rw [size_len, h2, List.length_reverse]; omega)
      have e : trimR (bytesOf x) = trimR (bytesOf (x.extract 0 r.length)) := by
        rw [h, h2]
        unfold trimR
        rw [List.reverse_append, List.reverse_reverse]
        show (List.dropWhile blankC (c :: r)).reverse = _
        rw [List.dropWhile_cons_of_pos q]
      rw [e]; exact ih
    · have e : trimR (bytesOf x) = bytesOf x := by
        rw [h]
        unfold trimR
        rw [List.reverse_append, List.reverse_reverse]
        show (List.dropWhile blankC (c :: r)).reverse = _
        rw [List.dropWhile_cons_of_neg (by rw [q]; simp), List.reverse_cons]
      rw [e, strOfNums_bytesOf]; exact Ev.now _
theorem spec_Trim_l0 : ∀ (l : List Int) (x : ByteArray), bytesOf x = l → x.size ≤ 1048576 → Ev (fun k => spec_Trim.l0 k x) (strOfNums (trimR (trimL (bytesOf x))))
  | [], x, h, hs => by
    have h0 : x.size = 0 := by rw [size_len, h]; rfl
    apply ev_succ; simp only [spec_Trim.l0, if_neg (show ¬ (x.size : Int) > 0 by omega)]
    apply ev_succ; simp only [spec_Trim.j1]
    have := spec_Trim_l1 [] x h hs
    rwa [show trimL (bytesOf x) = bytesOf x by rw [h]; rfl]
  | c :: r, x, h, hs => by
    obtain ⟨h1, h2, h3⟩ := bytesOf_one h
    apply ev_succ
    simp only [spec_Trim.l0, if_pos (show (x.size : Int) > 0 by omega), if_pos (show (0 : Int) < (x.size : Int) by omega), if_pos (show (1 : Int) ≤ (x.size : Int) by omega), h1, l1Blank_eq, Option.bind_some]
    refine ev_iteB (fun q => ?_) (fun q => ?_)
    · have ih := spec_Trim_l0 r (x.extract 1 x.size) h2 (by rw [size_len, h2]; omega)
      have e : trimL (bytesOf x) = trimL (bytesOf (x.extract 1 x.size)) := by
        rw [h, h2]
        unfold trimL
        rw [List.dropWhile_cons_of_pos q]
      rw [e]; exact ih
    · have e : trimL (bytesOf x) = bytesOf x := by
        rw [h]
        unfold trimL
        rw [List.dropWhile_cons_of_neg (by rw [q]; simp)]
      rw [e]
      apply ev_succ; simp only [spec_Trim.j1]
      exact spec_Trim_l1 (bytesOf x).reverse x (by rw [List.reverse_reverse]) hs
theorem spec_Trim_ev (s : ByteArray) (hs : s.size ≤ 1048576) : Ev (fun k => spec_Trim.f k s) (trim s) := by
  unfold spec_Trim.f trim
  rw [trim_comm]
  exact spec_Trim_l0 _ s rfl hs

def valOk (s : ByteArray) : Bool := decide ((s.size : Int) ≤ 60) && (plainB (bytesOf s) && ((trim s).toList == s.toList))
def nameFree (s : ByteArray) : Bool := decide (¬ s.toList = ([99, 111, 110, 116, 101, 110, 116, 45, 108, 101, 110, 103, 116, 104] : List UInt8)) && decide (¬ s.toList = ([116, 114, 97, 110, 115, 102, 101, 114, 45, 101, 110, 99, 111, 100, 105, 110, 103] : List UInt8))
def headOk (h : S102) : Bool := smallName h.f0 && (valOk h.f1 && nameFree h.f0)
def headsOkL (l : List S102) : Bool := l.all headOk
def headsOk (l : List S102) : Bool := headsOkL l && decide ((l.length : Int) ≤ 8)
theorem impl_valOk_ev (s : ByteArray) (hs : s.size ≤ 1048576) : Ev (fun k => impl_valOk.f k s) (valOk s) := by
  unfold impl_valOk.f valOk
  refine ev_ite (fun q => ?_) (fun q => ?_)
  · rw [decide_eq_true q, Bool.true_and]
    refine Ev.bind (impl_Plain_ev s (by omega)) (ev_iteB (fun q1 => ?_) (fun q1 => ?_))
    · rw [q1, Bool.true_and]
      simp only [impl_Trim_eq s (by omega), Option.bind_some]; exact Ev.now _
    · rw [q1, Bool.false_and]; exact Ev.now _
  · rw [decide_eq_false q, Bool.false_and]; exact Ev.now _
theorem spec_l3Val_ev (s : ByteArray) (hs : s.size ≤ 1048576) : Ev (fun k => spec_l3Val.f k s) (valOk s) := by
  unfold spec_l3Val.f valOk
  refine ev_ite (fun q => ?_) (fun q => ?_)
  · rw [decide_eq_true q, Bool.true_and]
    refine Ev.bind (spec_Plain_ev s (by omega)) (ev_iteB (fun q1 => ?_) (fun q1 => ?_))
    · rw [q1, Bool.true_and]
      refine Ev.bind (spec_Trim_ev s hs) ?_
      exact Ev.now _
    · rw [q1, Bool.false_and]; exact Ev.now _
  · rw [decide_eq_false q, Bool.false_and]; exact Ev.now _
theorem impl_headsOk_ev (l : List S102) (hl : l.length ≤ 9223372036854775806) (hs : ∀ x ∈ l, x.f0.size ≤ 1048576 ∧ x.f1.size ≤ 1048576) : Ev (fun k => impl_headsOk.f k l) (headsOk l) := by
  refine list_loop_st l hl (fun i (_ : Unit) k => impl_headsOk.l0 k l l (l.length : Int) (i : Int)) (fun _ _ r => headsOkL r && decide ((l.length : Int) ≤ 8)) (fun _ _ r => ∀ x ∈ r, x.f0.size ≤ 1048576 ∧ x.f1.size ≤ 1048576) ?_ ?_ 0 () hs
  · intro i _ _ hi
    apply ev_succ; simp only [impl_headsOk.l0, if_neg (show ¬ (i : Int) < l.length by omega)]; exact Ev.now _
  · intro i _ c r hr h hb hi hw1 ih
    have hbb : rd_T102 l (i : Int) = c := hb _
    obtain ⟨hc0, hc1⟩ := hr c (by simp)
    replace ih := ih () (fun x hx => hr x (by simp [hx]))
    apply ev_succ
    simp only [impl_headsOk.l0, if_pos (show (i : Int) < l.length by omega), if_pos (show (0 : Int) ≤ i by omega), hbb, hw1]
    refine Ev.bind (impl_SmallName_ev c.f0 (by omega)) (ev_iteB (fun q1 => ?_) (fun q1 => ?_))
    · refine Ev.bind (impl_valOk_ev c.f1 (by omega)) (ev_iteB (fun q2 => ?_) (fun q2 => ?_))
      · refine ev_ite (fun q3 => ?_) (fun q3 => ev_ite (fun q4 => ?_) (fun q4 => ?_))
        · rw [show (headsOkL (c :: r) && decide ((l.length : Int) ≤ 8)) = false by simp [headsOkL, headOk, nameFree, q3]]; exact Ev.now _
        · rw [show (headsOkL (c :: r) && decide ((l.length : Int) ≤ 8)) = false by simp [headsOkL, headOk, nameFree, q4]]; exact Ev.now _
        · rw [show headsOkL (c :: r) = headsOkL r by simp [headsOkL, headOk, nameFree, q1, q2, q3, q4]]; exact ih
      · rw [show (headsOkL (c :: r) && decide ((l.length : Int) ≤ 8)) = false by simp [headsOkL, headOk, q2]]; exact Ev.now _
    · rw [show (headsOkL (c :: r) && decide ((l.length : Int) ≤ 8)) = false by simp [headsOkL, headOk, q1]]; exact Ev.now _
theorem spec_l3Heads_ev (l : List S102) (hl : l.length ≤ 9223372036854775806) (hs : ∀ x ∈ l, x.f0.size ≤ 1048576 ∧ x.f1.size ≤ 1048576) : Ev (fun k => spec_l3Heads.f k l) (headsOk l) := by
  refine list_loop_st l hl (fun i (_ : Unit) k => spec_l3Heads.l0 k l (i : Int)) (fun _ _ r => headsOkL r && decide ((l.length : Int) ≤ 8)) (fun _ _ r => ∀ x ∈ r, x.f0.size ≤ 1048576 ∧ x.f1.size ≤ 1048576) ?_ ?_ 0 () hs
  · intro i _ _ hi
    apply ev_succ; simp only [spec_l3Heads.l0, if_neg (show ¬ (i : Int) < l.length by omega)]; exact Ev.now _
  · intro i _ c r hr h hb hi hw1 ih
    have hbb : rd_T102 l (i : Int) = c := hb _
    obtain ⟨hc0, hc1⟩ := hr c (by simp)
    replace ih := ih () (fun x hx => hr x (by simp [hx]))
    apply ev_succ
    simp only [spec_l3Heads.l0, if_pos (show (i : Int) < l.length by omega), if_pos (show (0 : Int) ≤ i by omega), hbb, hw1]
    refine Ev.bind (spec_SmallName_ev c.f0 (by omega)) (ev_iteB (fun q1 => ?_) (fun q1 => ?_))
    · refine Ev.bind (spec_l3Val_ev c.f1 (by omega)) (ev_iteB (fun q2 => ?_) (fun q2 => ?_))
      · refine ev_ite (fun q3 => ?_) (fun q3 => ev_ite (fun q4 => ?_) (fun q4 => ?_))
        · rw [show (headsOkL (c :: r) && decide ((l.length : Int) ≤ 8)) = false by simp [headsOkL, headOk, nameFree, q3]]; exact Ev.now _
        · rw [show (headsOkL (c :: r) && decide ((l.length : Int) ≤ 8)) = false by simp [headsOkL, headOk, nameFree, q4]]; exact Ev.now _
        · rw [show headsOkL (c :: r) = headsOkL r by simp [headsOkL, headOk, nameFree, q1, q2, q3, q4]]; exact ih
      · rw [show (headsOkL (c :: r) && decide ((l.length : Int) ≤ 8)) = false by simp [headsOkL, headOk, q2]]; exact Ev.now _
    · rw [show (headsOkL (c :: r) && decide ((l.length : Int) ≤ 8)) = false by simp [headsOkL, headOk, q1]]; exact Ev.now _

def szReqV (left : Int) (m p : ByteArray) (l : List S122) (b : ByteArray) : Int :=
  if left - m.size < 0 then -1 else if left - m.size - p.size < 0 then -1 else if szHeads (left - m.size - p.size) l < 0 then -1 else if szHeads (left - m.size - p.size) l - b.size < 0 then -1 else szHeads (left - m.size - p.size) l - b.size
theorem szReq_ev (m p : ByteArray) (l : List S122) (b : ByteArray) (left : Int) (hm : m.size ≤ 9223372036854775807) (hp : p.size ≤ 9223372036854775807) (hl : l.length ≤ 9223372036854775807 ∧ ∀ x ∈ l, (x.f0.size ≤ 9223372036854775807) ∧ (x.f1.size ≤ 9223372036854775807)) (hb : b.size ≤ 9223372036854775807) (h0 : 0 ≤ left) (h1 : left ≤ 1048576) : Ev (fun k => laws_szReq.f k m p l b left) (szReqV left m p l b) := by
  unfold laws_szReq.f szReqV
  rw [wrap_id (x := left - m.size) (by omega) (by omega)]
  refine ev_ite (fun q => ?_) (fun q => ?_)
  · rw [if_pos q]; exact Ev.now _
  · rw [if_neg q, wrap_id (x := left - m.size - p.size) (by omega) (by omega)]
    refine ev_ite (fun q => ?_) (fun q => ?_)
    · rw [if_pos q]; exact Ev.now _
    · rw [if_neg q]
      refine Ev.bind (szHeadS_ev l _ hl (by omega) (by omega)) (ev_ite (fun q => ?_) (fun q => ?_))
      · rw [if_pos q]; exact Ev.now _
      · obtain ⟨_, a1, _⟩ := szHeads_le q
        rw [if_neg q, wrap_id (x := szHeads (left - m.size - p.size) l - b.size) (by omega) (by omega)]
        refine ev_ite (fun q1 => ?_) (fun q1 => ?_)
        · rw [if_pos q1]; exact Ev.now _
        · rw [if_neg q1]; exact Ev.now _
theorem szReq_le {left : Int} {m p : ByteArray} {l : List S122} {b : ByteArray} (h : ¬ szReqV left m p l b < 0) : (l.length : Int) ≤ left ∧ szReqV left m p l b ≤ left ∧ (m.size : Int) ≤ left ∧ (p.size : Int) ≤ left ∧ (b.size : Int) ≤ left ∧ ∀ x ∈ l, (x.f0.size : Int) ≤ left ∧ (x.f1.size : Int) ≤ left := by
  unfold szReqV at h ⊢
  by_cases q : left - m.size < 0
  · rw [if_pos q] at h; omega
  · rw [if_neg q] at h ⊢
    by_cases q : left - m.size - p.size < 0
    · rw [if_pos q] at h; omega
    · rw [if_neg q] at h ⊢
      by_cases q : szHeads (left - m.size - p.size) l < 0
      · rw [if_pos q] at h; omega
      · obtain ⟨a0, a1, a2⟩ := szHeads_le q
        rw [if_neg q] at h ⊢
        by_cases q1 : szHeads (left - m.size - p.size) l - b.size < 0
        · rw [if_pos q1] at h; omega
        · rw [if_neg q1] at h ⊢; exact ⟨by omega, by omega, by omega, by omega, by omega, fun x hx => by have := a2 x hx; omega⟩
theorem toReq_ev (m p : ByteArray) (l : List S122) (b : ByteArray) (hl : l.length ≤ 8796093022208) : Ev (fun k => laws_toReq.f k m p l b) (m, p, l.map toH, b) := by
  unfold laws_toReq.f
  exact Ev.bind (toHeadS_ev l hl) (Ev.now _)
def sameReqV (m p : ByteArray) (l : List S102) (b : ByteArray) (m' p' : ByteArray) (l' : List S102) (b' : ByteArray) : Prop := m = m' ∧ p = p' ∧ l = l' ∧ b = b'
theorem eqReq_ev (m p : ByteArray) (l : List S102) (b : ByteArray) (m' p' : ByteArray) (l' : List S102) (b' : ByteArray) (hl : l.length ≤ 9223372036854775806) : Ev (fun k => laws_eqReq.f k m p l b m' p' l' b') (decb (sameReqV m p l b m' p' l' b')) := by
  unfold laws_eqReq.f
  refine ev_ite (fun q => ?_) (fun q => ?_)
  · rw [toList_iff] at q
    refine ev_ite (fun q0 => ?_) (fun q0 => ?_)
    · rw [toList_iff] at q0
      refine Ev.bind (eqHeadS_ev l l' hl) (ev_iteB (fun q1 => ?_) (fun q1 => ?_))
      · rw [eqb_iff] at q1
        refine ev_ite (fun q2 => ?_) (fun q2 => ?_)
        · rw [toList_iff] at q2; rw [decb_true ⟨q, q0, q1, q2⟩]; exact Ev.now _
        · rw [toList_iff] at q2; rw [decb_false (fun h => q2 h.2.2.2)]; exact Ev.now _
      · have : ¬ l = l' := fun h => by rw [(eqb_iff l l').mpr h] at q1; cases q1
        rw [decb_false (fun h => this h.2.2.1)]; exact Ev.now _
    · rw [toList_iff] at q0; rw [decb_false (fun h => q0 h.2.1)]; exact Ev.now _
  · rw [toList_iff] at q; rw [decb_false (fun h => q h.1)]; exact Ev.now _

theorem isLarge_eq (c : Int) : impl_isLarge.f c = some (largeC c) := by
  unfold impl_isLarge.f largeC; split <;> simp [*] <;> omega

theorem l1Large_eq (c : Int) (h : wrap64 c = c) : spec_l1Large.f c = some (largeC c) := by
  unfold spec_l1Large.f; rw [h, l1In_eq]; rfl

theorem lit_iff (s : ByteArray) (l : List UInt8) : s.toList = l ↔ bytesOf s = l.map fun b => (b.toNat : Int) := by
  rw [Lib.toList_data]
  unfold bytesOf
  constructor
  · intro h; rw [h]
  · intro h; exact List.map_inj_right (fun x y hxy => UInt8.toNat_inj.mp (by omega)) |>.mp h
theorem indexByte_mem : ∀ (l : List UInt8) (c : UInt8), 0 ≤ Lib.indexByte l c ↔ c ∈ l
  | [], c => by simp [Lib.indexByte]
  | b :: l, c => by
    have ih := indexByte_mem l c
    have hg := Lib.indexByte_ge l c
    simp only [Lib.indexByte]
    by_cases h : b = c
    · subst h; simp
    · have h' : (b == c) = false := by simpa using h
      have h2 : ¬ c = b := fun e => h e.symm
      rw [h']
      simp only [Bool.false_eq_true, if_false, List.mem_cons, h2, false_or, ← ih]
      by_cases q : Lib.indexByte l c = -1
      · simp [q]
      · have : (Lib.indexByte l c == -1) = false := by simpa using q
        rw [this]; simp only [Bool.false_eq_true, if_false]; omega
theorem mem_bytes (s : ByteArray) (c : UInt8) : c ∈ s.data.toList ↔ (c.toNat : Int) ∈ bytesOf s := by
  unfold bytesOf
  rw [List.mem_map]
  constructor
  · intro h; exact ⟨c, h, rfl⟩
  · rintro ⟨d, hd, he⟩
    have : d = c := UInt8.toNat_inj.mp (by omega)
    rw [← this]; exact hd

def targetC (c : Int) : Bool := decide (33 ≤ c) && decide (c ≤ 126)
def targetOk (p : ByteArray) : Bool := lenB p 1 80 && (bytesOf p).all targetC
def methodOk (m : ByteArray) : Bool := (bytesOf m).all largeC && lenB m 1 9
def reqOk (m p : ByteArray) (l : List S102) (b : ByteArray) : Bool := methodOk m && (targetOk p && (headsOk l && decide ((b.size : Int) ≤ 200)))
theorem target_plain : ∀ l : List Int, l.all targetC = (plainB l && !decide ((32 : Int) ∈ l))
  | [] => rfl
  | c :: r => by
    have ih := target_plain r
    unfold plainB at ih ⊢
    rw [List.all_cons, List.all_cons, ih]
    have e : decide ((32 : Int) ∈ c :: r) = (decide (c = 32) || decide ((32 : Int) ∈ r)) := by
      rw [Bool.eq_iff_iff, Bool.or_eq_true, decide_eq_true_iff, decide_eq_true_iff, decide_eq_true_iff, List.mem_cons]; exact ⟨fun h => h.elim (fun e => .inl e.symm) .inr, fun h => h.elim (fun e => .inl e.symm) .inr⟩
    rw [e]
    have h1 : targetC c = (plainC c && !decide (c = 32)) := by
      unfold targetC plainC
      rw [Bool.eq_iff_iff]; simp; omega
    rw [h1]
    cases plainC c <;> cases decide (c = 32) <;> cases r.all plainC <;> cases decide ((32 : Int) ∈ r) <;> rfl
theorem impl_lineOk_ev (m p : ByteArray) (hm : m.size ≤ 1048576) (hp : p.size ≤ 1048576) : Ev (fun k => impl_lineOk.f k m p) (methodOk m && targetOk p) := by
  unfold methodOk
  rw [Bool.and_assoc]
  refine str_loop m (fun i k => impl_lineOk.l0 k m p (i : Int)) (fun r => r.all largeC && (lenB m 1 9 && targetOk p)) ?_ ?_ (by omega) 0
  · intro i hi
    apply ev_succ
    simp only [impl_lineOk.l0, if_neg (show ¬ (i : Int) < m.size by omega), in_eq, Option.bind_some]
    rw [List.all_nil, Bool.true_and]
    refine ev_iteB (fun q => ?_) (fun q => ?_)
    · rw [show lenB m 1 9 = true from q, Bool.true_and]
      refine ev_iteB (fun q1 => ?_) (fun q1 => ?_)
      · rw [show targetOk p = (bytesOf p).all targetC by unfold targetOk; rw [show lenB p 1 80 = true from q1, Bool.true_and], target_plain]
        refine Ev.bind (impl_Plain_ev p (by omega)) (ev_iteB (fun q2 => ?_) (fun q2 => ?_))
        · rw [q2, Bool.true_and]
          have e0 : strings_Contains.f p (⟨#[32]⟩ : ByteArray) = some (decide (0 ≤ Lib.indexByte p.data.toList 32)) := rfl
          have e1 : (0 ≤ Lib.indexByte p.data.toList 32) ↔ (32 : Int) ∈ bytesOf p := (indexByte_mem _ _).trans (mem_bytes p 32)
          simp only [e0, Option.bind_some, decide_eq_decide.2 e1]; exact Ev.now _
        · rw [q2, Bool.false_and]; exact Ev.now _
      · rw [show targetOk p = false by unfold targetOk; rw [show lenB p 1 80 = false from q1, Bool.false_and]]; exact Ev.now _
    · rw [show lenB m 1 9 = false from q, Bool.false_and]; exact Ev.now _
  · intro i c r h hb hi hw hw1 ih
    apply ev_succ
    simp only [impl_lineOk.l0, if_pos (show (i : Int) < m.size by omega), if_pos (show (0 : Int) ≤ i by omega), hb, isLarge_eq, Option.bind_some, hw1]
    refine ev_iteB (fun q => ?_) (fun q => ?_)
    · rw [List.all_cons, q, Bool.true_and]; exact ih
    · rw [List.all_cons, q, Bool.false_and, Bool.false_and]; exact Ev.now _
theorem spec_l3Method_ev (m : ByteArray) (hm : m.size ≤ 1048576) : Ev (fun k => spec_l3Method.f k m) (methodOk m) := by
  refine str_loop m (fun i k => spec_l3Method.l0 k m (i : Int)) (fun r => r.all largeC && lenB m 1 9) ?_ ?_ (by omega) 0
  · intro i hi
    apply ev_succ
    simp only [spec_l3Method.l0, if_neg (show ¬ (i : Int) < m.size by omega), l1In_eq, Option.bind_some]
    rw [List.all_nil, Bool.true_and]; exact Ev.now _
  · intro i c r h hb hi hw hw1 ih
    apply ev_succ
    simp only [spec_l3Method.l0, if_pos (show (i : Int) < m.size by omega), if_pos (show (0 : Int) ≤ i by omega), hb, l1Large_eq c hw, Option.bind_some, hw1]
    refine ev_iteB (fun q => ?_) (fun q => ?_)
    · rw [List.all_cons, q, Bool.true_and]; exact ih
    · rw [List.all_cons, q, Bool.false_and, Bool.false_and]; exact Ev.now _
theorem spec_l3Target_ev (p : ByteArray) (hp : p.size ≤ 1048576) : Ev (fun k => spec_l3Target.f k p) (targetOk p) := by
  unfold targetOk
  rw [Bool.and_comm]
  refine str_loop p (fun i k => spec_l3Target.l0 k p (i : Int)) (fun r => r.all targetC && lenB p 1 80) ?_ ?_ (by omega) 0
  · intro i hi
    apply ev_succ
    simp only [spec_l3Target.l0, if_neg (show ¬ (i : Int) < p.size by omega), l1In_eq, Option.bind_some]
    rw [List.all_nil, Bool.true_and]; exact Ev.now _
  · intro i c r h hb hi hw hw1 ih
    apply ev_succ
    simp only [spec_l3Target.l0, if_pos (show (i : Int) < p.size by omega), if_pos (show (0 : Int) ≤ i by omega), hb, hw, l1In_eq, Option.bind_some, hw1]
    refine ev_iteB (fun q => ?_) (fun q => ?_)
    · rw [List.all_cons, show targetC c = true from q, Bool.true_and]; exact ih
    · rw [List.all_cons, show targetC c = false from q, Bool.false_and, Bool.false_and]; exact Ev.now _
theorem impl_ReqOk_ev (m p : ByteArray) (l : List S102) (b : ByteArray) (hm : m.size ≤ 1048576) (hp : p.size ≤ 1048576) (hl : l.length ≤ 9223372036854775806) (hs : ∀ x ∈ l, x.f0.size ≤ 1048576 ∧ x.f1.size ≤ 1048576) : Ev (fun k => impl_ReqOk.f k m p l b) (reqOk m p l b) := by
  unfold impl_ReqOk.f reqOk
  rw [← Bool.and_assoc]
  refine Ev.bind (impl_lineOk_ev m p hm hp) (ev_iteB (fun q => ?_) (fun q => ?_))
  · rw [q, Bool.true_and]
    refine Ev.bind (impl_headsOk_ev l hl hs) (ev_iteB (fun q1 => ?_) (fun q1 => ?_))
    · rw [q1, Bool.true_and]; exact Ev.now _
    · rw [q1, Bool.false_and]; exact Ev.now _
  · rw [q, Bool.false_and]; exact Ev.now _
theorem spec_ReqOk_ev (m p : ByteArray) (l : List S102) (b : ByteArray) (hm : m.size ≤ 1048576) (hp : p.size ≤ 1048576) (hl : l.length ≤ 9223372036854775806) (hs : ∀ x ∈ l, x.f0.size ≤ 1048576 ∧ x.f1.size ≤ 1048576) : Ev (fun k => spec_ReqOk.f k m p l b) (reqOk m p l b) := by
  unfold spec_ReqOk.f reqOk
  refine Ev.bind (spec_l3Method_ev m hm) (ev_iteB (fun q => ?_) (fun q => ?_))
  · rw [q, Bool.true_and]
    refine Ev.bind (spec_l3Target_ev p hp) (ev_iteB (fun q0 => ?_) (fun q0 => ?_))
    · rw [q0, Bool.true_and]
      refine Ev.bind (spec_l3Heads_ev l hl hs) (ev_iteB (fun q1 => ?_) (fun q1 => ?_))
      · rw [q1, Bool.true_and]; exact Ev.now _
      · rw [q1, Bool.false_and]; exact Ev.now _
    · rw [q0, Bool.false_and]; exact Ev.now _
  · rw [q, Bool.false_and]; exact Ev.now _

def htCat (x : ByteArray) (h : S102) : ByteArray := x ++ ((((h.f0) ++ (⟨#[58, 32]⟩ : ByteArray)) ++ h.f1) ++ (⟨#[13, 10]⟩ : ByteArray))
def htL : ByteArray → List S102 → ByteArray
  | x, [] => x
  | x, c :: r => htL (htCat x c) r
def headText (l : List S102) : ByteArray := htL (⟨#[]⟩ : ByteArray) l
theorem sz2a : (⟨#[58, 32]⟩ : ByteArray).size = 2 := rfl
theorem sz2b : (⟨#[13, 10]⟩ : ByteArray).size = 2 := rfl
theorem htCat_size (x : ByteArray) (h : S102) : (htCat x h).size = x.size + (h.f0.size + 2 + h.f1.size + 2) := by
  unfold htCat; simp only [ByteArray.size_append, sz2a, sz2b]
theorem htL_size : ∀ (l : List S102) (x : ByteArray), (∀ y ∈ l, y.f0.size ≤ 1048576 ∧ y.f1.size ≤ 1048576) → (htL x l).size ≤ x.size + l.length * 2097156
  | [], x, _ => by simp [htL]
  | c :: r, x, h => by
    have h1 := htL_size r (htCat x c) (fun y hy => h y (by simp [hy]))
    have h2 := h c (by simp)
    rw [htCat_size] at h1
    simp only [htL, List.length_cons]
    omega
theorem headText_size (l : List S102) (hl : l.length ≤ 1048576) (h : ∀ y ∈ l, y.f0.size ≤ 1048576 ∧ y.f1.size ≤ 1048576) : (headText l).size ≤ 2199027449856 := by
  have := htL_size l (⟨#[]⟩ : ByteArray) h
  rw [show (⟨#[]⟩ : ByteArray).size = 0 from rfl] at this
  unfold headText
  omega
theorem impl_headText_ev (l : List S102) (hl : l.length ≤ 1048576) (hs : ∀ x ∈ l, x.f0.size ≤ 1048576 ∧ x.f1.size ≤ 1048576) : Ev (fun k => impl_headText.f k l) (headText l) := by
  refine list_loop_st l (by omega) (fun i x k => impl_headText.l0 k x l (l.length : Int) (i : Int)) (fun _ x r => htL x r) (fun i x r => x.size ≤ i * 2097156 ∧ ∀ y ∈ r, y.f0.size ≤ 1048576 ∧ y.f1.size ≤ 1048576) ?_ ?_ 0 _ ⟨by rw [show (⟨#[]⟩ : ByteArray).size = 0 from rfl]; omega, hs⟩
  · intro i x _ hi
    apply ev_succ; simp only [impl_headText.l0, if_neg (show ¬ (i : Int) < l.length by omega)]; exact Ev.now _
  · intro i x c r ⟨hx, hr⟩ h hb hi hw1 ih
    have hbb : rd_T102 l (i : Int) = c := hb _
    obtain ⟨hc0, hc1⟩ := hr c (by simp)
    replace ih := ih (htCat x c) ⟨by rw [htCat_size]; omega, fun y hy => hr y (by simp [hy])⟩
    apply ev_succ
    simp only [impl_headText.l0, if_pos (show (i : Int) < l.length by omega), if_pos (show (0 : Int) ≤ i by omega), hbb, hw1, ByteArray.size_append, sz2a, sz2b, if_pos (show c.f0.size + 2 ≤ 9223372036854775807 by omega), if_pos (show c.f0.size + 2 + c.f1.size ≤ 9223372036854775807 by omega), if_pos (show c.f0.size + 2 + c.f1.size + 2 ≤ 9223372036854775807 by omega), if_pos (show x.size + (c.f0.size + 2 + c.f1.size + 2) ≤ 9223372036854775807 by omega)]
    exact ih
theorem htCat_assoc (x : ByteArray) (h : S102) : (((x ++ h.f0) ++ (⟨#[58, 32]⟩ : ByteArray)) ++ h.f1) ++ (⟨#[13, 10]⟩ : ByteArray) = htCat x h := by
  unfold htCat; simp only [ByteArray.append_assoc]
theorem spec_l3HeadsText_ev (l : List S102) (hl : l.length ≤ 1048576) (hs : ∀ x ∈ l, x.f0.size ≤ 1048576 ∧ x.f1.size ≤ 1048576) : Ev (fun k => spec_l3HeadsText.f k l) (headText l) := by
  refine list_loop_st l (by omega) (fun i x k => spec_l3HeadsText.l0 k l x (i : Int)) (fun _ x r => htL x r) (fun i x r => x.size ≤ i * 2097156 ∧ ∀ y ∈ r, y.f0.size ≤ 1048576 ∧ y.f1.size ≤ 1048576) ?_ ?_ 0 _ ⟨by rw [show (⟨#[]⟩ : ByteArray).size = 0 from rfl]; omega, hs⟩
  · intro i x _ hi
    apply ev_succ; simp only [spec_l3HeadsText.l0, if_neg (show ¬ (i : Int) < l.length by omega)]; exact Ev.now _
  · intro i x c r ⟨hx, hr⟩ h hb hi hw1 ih
    have hbb : rd_T102 l (i : Int) = c := hb _
    obtain ⟨hc0, hc1⟩ := hr c (by simp)
    replace ih := ih (htCat x c) ⟨by rw [htCat_size]; omega, fun y hy => hr y (by simp [hy])⟩
    apply ev_succ
    simp only [spec_l3HeadsText.l0, if_pos (show (i : Int) < l.length by omega), if_pos (show (0 : Int) ≤ i by omega), hbb, hw1, htCat_assoc, ByteArray.size_append, sz2a, sz2b, if_pos (show x.size + c.f0.size ≤ 9223372036854775807 by omega), if_pos (show x.size + c.f0.size + 2 ≤ 9223372036854775807 by omega), if_pos (show x.size + c.f0.size + 2 + c.f1.size ≤ 9223372036854775807 by omega), if_pos (show x.size + c.f0.size + 2 + c.f1.size + 2 ≤ 9223372036854775807 by omega)]
    exact ih

theorem sz2c : (⟨#[13, 10]⟩ : ByteArray).size = 2 := rfl

def reqLine (m p : ByteArray) (l : List S102) (more : ByteArray) : ByteArray := ((((((m ++ (⟨#[32]⟩ : ByteArray)) ++ p) ++ (⟨#[32, 72, 84, 84, 80, 47, 49, 46, 49]⟩ : ByteArray)) ++ (⟨#[13, 10]⟩ : ByteArray)) ++ headText l) ++ more) ++ (⟨#[13, 10]⟩ : ByteArray)
noncomputable def putV (m p : ByteArray) (l : List S102) (b more : ByteArray) (body : List Int) : List Int := if reqOk m p l b = true then (if ((reqLine m p l more).size : Int) > 400 then [] else bytesOf (reqLine m p l more) ++ body) else []
theorem sz1a : (⟨#[32]⟩ : ByteArray).size = 1 := rfl
theorem sz9a : (⟨#[32, 72, 84, 84, 80, 47, 49, 46, 49]⟩ : ByteArray).size = 9 := rfl
theorem spec_l3Put_ev (m p : ByteArray) (l : List S102) (b more body : ByteArray) (hm : m.size ≤ 1048576) (hp : p.size ≤ 1048576) (hl : l.length ≤ 1048576) (hs : ∀ x ∈ l, x.f0.size ≤ 1048576 ∧ x.f1.size ≤ 1048576) (hmo : more.size ≤ 1048576) (hb : body.size ≤ 1000000000) : Ev (fun k => spec_l3Put.f k m p l b more body) (putV m p l b more (bytesOf body)) := by
  have hh := headText_size l hl hs
  unfold spec_l3Put.f putV
  refine ev_ite (fun _ => ?_) (fun q => absurd (by omega) q)
  refine ev_ite (fun _ => ?_) (fun q => absurd (by simp only [ByteArray.size_append, sz1a]; omega) q)
  refine ev_ite (fun _ => ?_) (fun q => absurd (by simp only [ByteArray.size_append, sz1a]; omega) q)
  refine ev_ite (fun _ => ?_) (fun q => absurd (by simp only [ByteArray.size_append, sz1a, sz9a]; omega) q)
  refine Ev.bind (spec_l3HeadsText_ev l hl hs) ?_
  refine ev_ite (fun _ => ?_) (fun q => absurd (by simp only [ByteArray.size_append, sz1a, sz9a, sz2c]; omega) q)
  refine ev_ite (fun _ => ?_) (fun q => absurd (by simp only [ByteArray.size_append, sz1a, sz9a, sz2c]; omega) q)
  refine ev_ite (fun _ => ?_) (fun q => absurd (by simp only [ByteArray.size_append, sz1a, sz9a, sz2c]; omega) q)
  refine Ev.bind (spec_ReqOk_ev m p l b hm hp (by omega) hs) (ev_iteB (fun q => ?_) (fun q => ?_))
  · rw [if_pos q]
    refine ev_ite (fun q1 => ?_) (fun q1 => ?_)
    · rw [if_pos (show ((reqLine m p l more).size : Int) > 400 from q1)]; exact Ev.now _
    · rw [if_neg (show ¬ ((reqLine m p l more).size : Int) > 400 from q1)]
      refine ev_ite (fun _ => ?_) (fun q => absurd (by simp only [ByteArray.size_append, sz1a, sz9a, sz2c]; omega) q)
      refine ev_ite (fun _ => ?_) (fun q => absurd (by simp only [ByteArray.size_append, sz1a, sz9a, sz2c]; omega) q)
      rw [bytesOf_append]
      exact Ev.now _
  · rw [if_neg (by rw [q]; simp)]; exact Ev.now _
theorem impl_putReq_ev (m p : ByteArray) (l : List S102) (b more : ByteArray) (body : List Int) (hm : m.size ≤ 1048576) (hp : p.size ≤ 1048576) (hl : l.length ≤ 1048576) (hs : ∀ x ∈ l, x.f0.size ≤ 1048576 ∧ x.f1.size ≤ 1048576) (hmo : more.size ≤ 1048576) (hb : body.length ≤ 1099511627776) : Ev (fun k => impl_putReq.f k m p l b more body) (putV m p l b more body) := by
  have hh := headText_size l hl hs
  unfold impl_putReq.f putV
  refine ev_ite (fun _ => ?_) (fun q => absurd (by omega) q)
  refine ev_ite (fun _ => ?_) (fun q => absurd (by simp only [ByteArray.size_append, sz1a]; omega) q)
  refine ev_ite (fun _ => ?_) (fun q => absurd (by simp only [ByteArray.size_append, sz1a]; omega) q)
  refine ev_ite (fun _ => ?_) (fun q => absurd (by simp only [ByteArray.size_append, sz1a, sz9a]; omega) q)
  refine Ev.bind (impl_headText_ev l hl hs) ?_
  refine ev_ite (fun _ => ?_) (fun q => absurd (by simp only [ByteArray.size_append, sz1a, sz9a, sz2c]; omega) q)
  refine ev_ite (fun _ => ?_) (fun q => absurd (by simp only [ByteArray.size_append, sz1a, sz9a, sz2c]; omega) q)
  refine ev_ite (fun _ => ?_) (fun q => absurd (by simp only [ByteArray.size_append, sz1a, sz9a, sz2c]; omega) q)
  refine Ev.bind (impl_ReqOk_ev m p l b hm hp (by omega) hs) (ev_iteB (fun q => ?_) (fun q => ?_))
  · rw [if_pos q]
    refine ev_ite (fun q1 => ?_) (fun q1 => ?_)
    · rw [if_pos (show ((reqLine m p l more).size : Int) > 400 from q1)]; exact Ev.now _
    · rw [if_neg (show ¬ ((reqLine m p l more).size : Int) > 400 from q1)]
      refine ev_ite (fun _ => ?_) (fun q => absurd (by simp only [ByteArray.size_append, sz1a, sz9a, sz2c]; omega) q)
      simp only [Option.bind_some]
      refine ev_ite (fun _ => Ev.now _) (fun q => absurd (by rw [← size_len]; simp only [ByteArray.size_append, sz1a, sz9a, sz2c]; omega) q)
  · rw [if_neg (by rw [q]; simp)]; exact Ev.now _
theorem putV_len (m p : ByteArray) (l : List S102) (b more : ByteArray) (body : List Int) : (putV m p l b more body).length ≤ 400 + body.length := by
  unfold putV
  split
  · split
    · simp
    · rename_i h
      rw [List.length_append, ← size_len]; omega
  · simp

/-- a digit to the base 16, and a number's digits -/
def hexN (u : Nat) : List Int := (hexB u).map fun b => (b.toNat : Int)
def hexDg (d : Nat) : Int := if d < 10 then 48 + (d : Int) else 87 + (d : Int)
theorem hexb_toNat (d : Nat) (h : d < 16) : ((hexb d).toNat : Int) = hexDg d := by
  unfold hexb hexDg
  split
  · rw [show (UInt8.ofNat (48 + d)).toNat = 48 + d from by simp; omega]; omega
  · rw [show (UInt8.ofNat (87 + d)).toNat = 87 + d from by simp; omega]; omega
theorem hexN_step (u : Nat) (h : 15 < u) : hexN u = hexN (u / 16) ++ [hexDg (u % 16)] := by
  unfold hexN
  rw [hexB, dif_neg (by omega), List.map_append]
  congr 1
  simp only [List.map_cons, List.map_nil, List.cons.injEq, and_true]
  exact hexb_toNat _ (by omega)
theorem hexN_low (u : Nat) (h : u ≤ 15) : hexN u = [hexDg u] := by
  unfold hexN
  rw [hexB, dif_pos (by omega)]
  simp only [List.map_cons, List.map_nil, List.cons.injEq, and_true]
  exact hexb_toNat _ (by omega)
theorem hexN_range (u : Nat) : ∀ x ∈ hexN u, 0 ≤ x ∧ x < 256 := by
  intro x hx
  obtain ⟨b, _, rfl⟩ := List.mem_map.1 hx
  have := b.toNat_lt
  omega
theorem hexDg_range (d : Nat) (h : d < 16) : 48 ≤ hexDg d ∧ hexDg d ≤ 102 := by unfold hexDg; split <;> omega
theorem strHex (u : Nat) : (⟨(hexB u).toArray⟩ : ByteArray) = strOfNums (hexN u) := by
  apply bytesOf_inj
  rw [bytesOf_strOfNums _ (hexN_range u), bytesOf_mk]; rfl
theorem tdiv_16 (u : Nat) (hu : u ≤ 9223372036854775807) : wrap64 (Int.tdiv (u : Int) 16) = ((u / 16 : Nat) : Int) := by
  rw [Int.tdiv_eq_ediv_of_nonneg (by omega), wrap_id (by omega) (by omega)]
  omega
theorem tmod_16 (u : Nat) (hu : u ≤ 9223372036854775807) : Int.tmod (u : Int) 16 = ((u % 16 : Nat) : Int) := by
  rw [Int.tmod_eq_emod_of_nonneg (by omega)]; omega

theorem hexN_len : ∀ (k u : Nat), u < 16 ^ (k + 1) → (hexN u).length ≤ k + 1
  | 0, u, h => by rw [hexN_low u (by simpa using Nat.le_of_lt_succ h)]; simp
  | k + 1, u, h => by
    rcases Nat.lt_or_ge 15 u with h9 | h9
    · rw [hexN_step u h9, List.length_append]
      have := hexN_len k (u / 16) (by rw [Nat.pow_succ] at h; omega)
      simp; omega
    · rw [hexN_low u h9]; simp

theorem hexDig_eq (d : Nat) (h : d < 16) : spec_l1HexDigit.f ((d : Nat) : Int) = some (hexDg d) := by
  unfold spec_l1HexDigit.f hexDg
  by_cases h9 : d < 10
  · rw [if_pos (by omega), if_pos h9, wrap_id (by omega) (by omega)]; congr 1; omega
  · rw [if_neg (by omega), if_neg h9, wrap_id (x := 97 + (d : Int)) (by omega) (by omega), wrap_id (by omega) (by omega)]; congr 1; omega
theorem spec_Hex_l0 : ∀ (n u : Nat) (x : ByteArray), u < 16 ^ (n + 1) → u ≤ 9223372036854775807 → x.size ≤ 1000 - n → n ≤ 20 → bytesOf x = (hexN u).drop ((hexN u).length - 1) ++ (bytesOf x).drop 1 → Ev (fun k => spec_Hex.l0 k (u : Int) x) (strOfNums (hexN u ++ (bytesOf x).drop 1))
  | 0, u, x, h, hu, hx, hn, hb => by
    have h9 : u ≤ 15 := by omega
    apply ev_succ
    simp only [spec_Hex.l0, if_neg (show ¬ (u : Int) > 15 by omega)]
    rw [hexN_low u h9] at hb ⊢
    simp only [List.length_cons, List.length_nil, List.drop_zero, Nat.zero_add, Nat.sub_self] at hb
    rw [← hb, strOfNums_bytesOf]
    exact Ev.now _
  | n + 1, u, x, h, hu, hx, hn, hb => by
    apply ev_succ
    rcases Nat.lt_or_ge 15 u with h9 | h9
    · have hd := hexDg_range (u / 16 % 16) (Nat.mod_lt _ (by decide))
      have hy : bytesOf (strOfNums [hexDg (u / 16 % 16)]) = [hexDg (u / 16 % 16)] := bytesOf_strOfNums _ (by intro z hz; simp at hz; omega)
      have hs1 : (strOfNums [hexDg (u / 16 % 16)]).size = 1 := by rw [size_len, hy]; rfl
      simp only [spec_Hex.l0, if_pos (show (u : Int) > 15 by omega), tdiv_16 u hu, tmod_16 (u / 16) (by omega), hexDig_eq _ (Nat.mod_lt _ (by decide : 0 < 16)), Option.bind_some, hs1, if_pos (show 1 + x.size ≤ 9223372036854775807 by omega)]
      have e : bytesOf (strOfNums [hexDg (u / 16 % 16)] ++ x) = hexDg (u / 16 % 16) :: bytesOf x := by rw [bytesOf_append, hy]; rfl
      have ih := spec_Hex_l0 n (u / 16) (strOfNums [hexDg (u / 16 % 16)] ++ x) (by rw [Nat.pow_succ] at h; omega) (by omega) (by rw [ByteArray.size_append, hs1]; omega) (by omega) (by
        rw [e]
        simp only [List.drop_succ_cons, List.drop_zero]
        rcases Nat.lt_or_ge 15 (u / 16) with h10 | h10
        · rw [hexN_step (u / 16) h10]
          simp
        · rw [hexN_low (u / 16) h10, Nat.mod_eq_of_lt (by omega)]
          simp)
      rw [e] at ih
      simp only [List.drop_succ_cons, List.drop_zero] at ih
      rw [hexN_step u h9] at hb ⊢
      simp only [List.length_append, List.length_cons, List.length_nil, Nat.zero_add, Nat.add_sub_cancel, List.drop_left] at hb
      rw [List.append_assoc, ← hb]
      exact ih
    · simp only [spec_Hex.l0, if_neg (show ¬ (u : Int) > 15 by omega)]
      rw [hexN_low u h9] at hb ⊢
      simp only [List.length_cons, List.length_nil, List.drop_zero, Nat.zero_add, Nat.sub_self] at hb
      rw [← hb, strOfNums_bytesOf]
      exact Ev.now _
theorem spec_Hex_j0 (u : Nat) (hu : u ≤ 9223372036854775807) : Ev (fun k => spec_Hex.j0 k (u : Int)) (strOfNums (hexN u)) := by
  apply ev_succ
  simp only [spec_Hex.j0, tmod_16 u hu, hexDig_eq _ (Nat.mod_lt _ (by decide : 0 < 16)), Option.bind_some]
  have hd := hexDg_range (u % 16) (Nat.mod_lt _ (by decide))
  have hy : bytesOf (strOfNums [hexDg (u % 16)]) = [hexDg (u % 16)] := bytesOf_strOfNums _ (by intro z hz; simp at hz; omega)
  have hs1 : (strOfNums [hexDg (u % 16)]).size = 1 := by rw [size_len, hy]; rfl
  have := spec_Hex_l0 18 u (strOfNums [hexDg (u % 16)]) (by omega) hu (by omega) (by omega) (by
    rw [hy]
    rcases Nat.lt_or_ge 15 u with h9 | h9
    · rw [hexN_step u h9]; simp
    · rw [hexN_low u h9, Nat.mod_eq_of_lt (by omega)]; simp)
  rw [hy] at this
  simpa using this
theorem spec_Hex_ev (n : Int) (hn : n ≤ 9223372036854775807) : Ev (fun k => spec_Hex.f k n) (strOfNums (hexN n.toNat)) := by
  unfold spec_Hex.f
  refine ev_ite (fun h => ?_) (fun h => ?_)
  · rw [show n.toNat = 0 from by omega]
    exact spec_Hex_j0 0 (by omega)
  · have := spec_Hex_j0 n.toNat (by omega)
    rwa [Int.toNat_of_nonneg (by omega)] at this
theorem impl_Hex_eq (n : Int) (hn : n ≤ 9223372036854775807) : impl_Hex.f n = some (strOfNums (hexN n.toNat)) := by
  have e : mx n 0 = ((n.toNat : Nat) : Int) := by unfold mx; split <;> omega
  unfold impl_Hex.f
  rw [e]
  unfold strconv_FormatInt.f
  rw [if_pos ⟨by omega, by omega, rfl⟩, Option.bind_some, Int.toNat_natCast, strHex]

/-- a piece of a body as it is written, and all of them -/
def pieceL (b : List Int) : List Int := if b = [] then [] else hexN b.length ++ [13, 10] ++ b ++ [13, 10]
def chunkL : List Int → List Int → List Int
  | b, [] => pieceL b ++ [48, 13, 10, 13, 10]
  | b, n :: r => if n < 1 then chunkL b r else pieceL (b.take n.toNat) ++ chunkL (b.drop n.toNat) r
theorem rd_drop' {l : List Int} {p : Nat} {a : Int} {t : List Int} (h : l.drop p = a :: t) : rd l (p : Int) = a ∧ p < l.length ∧ l.drop (p + 1) = t := by
  have hp : p < l.length := by
    rcases Nat.lt_or_ge p l.length with h' | h'
    · exact h'
    · rw [List.drop_eq_nil_of_le h'] at h; cases h
  rw [List.drop_eq_getElem_cons hp] at h
  obtain ⟨h1, h2⟩ := List.cons.inj h
  refine ⟨?_, hp, h2⟩
  rw [rd, Int.toNat_natCast, List.getD_eq_getElem?_getD, List.getElem?_eq_getElem hp, Option.getD_some, h1]
theorem crlf_bytes : bytesOf (⟨#[13, 10]⟩ : ByteArray) = [13, 10] := rfl
theorem zero_bytes : bytesOf (⟨#[48]⟩ : ByteArray) = [48] := rfl
theorem pieceL_len (b : List Int) (hb : b.length ≤ 1048576) : (pieceL b).length ≤ b.length + 20 := by
  unfold pieceL
  split
  · simp
  · have := hexN_len 5 b.length (by omega)
    simp only [List.length_append, List.length_cons, List.length_nil]
    omega
theorem empty_iff (s : ByteArray) : s.toList = ([] : List UInt8) ↔ bytesOf s = [] := lit_iff s []
theorem bytesOf_take (s : ByteArray) (j : Nat) : bytesOf (s.extract 0 j) = (bytesOf s).take j := by rw [bytesOf_extract, List.drop_zero]
theorem bytesOf_dropS (s : ByteArray) (j : Nat) : bytesOf (s.extract j s.size) = (bytesOf s).drop j := by
  rw [bytesOf_extract, List.take_of_length_le (by rw [bytesOf_length]; exact Nat.le_refl _)]
theorem strHex_bytes (u : Nat) : bytesOf (strOfNums (hexN u)) = hexN u := bytesOf_strOfNums _ (hexN_range u)
theorem strHex_size (u : Nat) : (strOfNums (hexN u)).size = (hexN u).length := by rw [size_len, strHex_bytes]
theorem spec_l4Piece_ev (b : ByteArray) (hb : b.size ≤ 1048576) : ∃ t, Ev (fun k => spec_l4Piece.f k b) t ∧ bytesOf t = pieceL (bytesOf b) := by
  unfold spec_l4Piece.f
  by_cases q : b.toList = ([] : List UInt8)
  · refine ⟨⟨#[]⟩, ?_, ?_⟩
    · simp only [if_pos q]; exact Ev.now _
    · rw [(empty_iff b).1 q]; rfl
  · have hl := bytesOf_length b
    have h6 := hexN_len 5 b.size (by omega)
    have hs := strHex_size b.size
    have c2 : (⟨#[13, 10]⟩ : ByteArray).size = 2 := rfl
    refine ⟨((strOfNums (hexN b.size) ++ (⟨#[13, 10]⟩ : ByteArray)) ++ b) ++ (⟨#[13, 10]⟩ : ByteArray), ?_, ?_⟩
    · simp only [if_neg q]
      have h := spec_Hex_ev (b.size : Int) (by omega)
      rw [Int.toNat_natCast] at h
      refine Ev.bind h ?_
      simp only [ByteArray.size_append, c2]
      rw [if_pos (by omega), if_pos (by omega), if_pos (by omega)]
      exact Ev.now _
    · rw [bytesOf_append, bytesOf_append, bytesOf_append, strHex_bytes, crlf_bytes]
      unfold pieceL
      rw [if_neg (fun e => q ((empty_iff b).2 e)), hl]
theorem spec_l4Text_l0 (x1 : List Int) (h1 : x1.length ≤ 1048576) : ∀ (n i : Nat) (b s : ByteArray), x1.length - i = n → i ≤ x1.length → s.size + b.size ≤ 20 * i + 1048576 → b.size ≤ 1048576 →
    ∃ t, Ev (fun k => spec_l4Text.l0 k b x1 s (i : Int)) t ∧ bytesOf t = bytesOf s ++ chunkL (bytesOf b) (x1.drop i) ∧ t.size ≤ 100000000
  | 0, i, b, s, hn, hi, hs, hb => by
    obtain ⟨p, hp, hp1⟩ := spec_l4Piece_ev b hb
    have hl := bytesOf_length b
    have hp2 := pieceL_len (bytesOf b) (by omega)
    have hp3 : p.size ≤ b.size + 20 := by rw [size_len, hp1]; omega
    have c1 : (⟨#[48]⟩ : ByteArray).size = 1 := rfl
    have c2 : (⟨#[13, 10]⟩ : ByteArray).size = 2 := rfl
    refine ⟨(((s ++ p) ++ (⟨#[48]⟩ : ByteArray)) ++ (⟨#[13, 10]⟩ : ByteArray)) ++ (⟨#[13, 10]⟩ : ByteArray), ?_, ?_, ?_⟩
    · apply ev_succ
      simp only [spec_l4Text.l0, if_neg (show ¬ (i : Int) < x1.length by omega)]
      refine Ev.bind hp ?_
      simp only [ByteArray.size_append, c1, c2]
      rw [if_pos (by omega), if_pos (by omega), if_pos (by omega), if_pos (by omega)]
      exact Ev.now _
    · rw [List.drop_eq_nil_of_le (by omega)]
      simp only [bytesOf_append, hp1, crlf_bytes, zero_bytes, chunkL, List.append_assoc, List.cons_append, List.nil_append]
    · simp only [ByteArray.size_append, c1, c2]; omega
  | n + 1, i, b, s, hn, hi, hs, hb => by
    have hil : i < x1.length := by omega
    obtain ⟨hr, _, _⟩ := rd_drop' (List.drop_eq_getElem_cons hil)
    have hw : wrap64 ((i : Int) + 1) = ((i + 1 : Nat) : Int) := by rw [wrap_id (by omega) (by omega)]; omega
    have hl := bytesOf_length b
    rw [List.drop_eq_getElem_cons hil]
    generalize x1[i] = m at hr
    by_cases q : m < 1
    · obtain ⟨t, h2, h3⟩ := spec_l4Text_l0 x1 h1 n (i + 1) b s (by omega) (by omega) (by omega) hb
      refine ⟨t, ?_, by simpa only [chunkL, if_pos q] using h3⟩
      apply ev_succ
      simp only [spec_l4Text.l0, if_pos (show (i : Int) < x1.length by omega), if_pos (show (0 : Int) ≤ (i : Int) by omega), hr, if_pos q, hw]
      exact h2
    · simp only [chunkL, if_neg q]
      have key : ∀ j : Nat, (bytesOf b).take j = (bytesOf b).take m.toNat → (bytesOf b).drop j = (bytesOf b).drop m.toNat → ∃ t, Ev (fun k => (spec_l4Piece.f k (b.extract 0 j)).bind fun t112 => (if s.size + t112.size ≤ 9223372036854775807 then (spec_l4Text.l0 k (b.extract j b.size) x1 (s ++ t112) (wrap64 ((i : Int) + 1))) else (none))) t ∧ bytesOf t = bytesOf s ++ (pieceL ((bytesOf b).take m.toNat) ++ chunkL ((bytesOf b).drop m.toNat) (x1.drop (i + 1))) ∧ t.size ≤ 100000000 := by
        intro j e1 e2
        have ht : (b.extract 0 j).size ≤ b.size := by rw [size_len, bytesOf_take, List.length_take]; omega
        have hd : (b.extract j b.size).size + (b.extract 0 j).size = b.size := by
          have e3 := bytesOf_length (b.extract 0 j)
          have e4 := bytesOf_length (b.extract j b.size)
          rw [bytesOf_take, List.length_take] at e3
          rw [bytesOf_dropS, List.length_drop] at e4
          omega
        obtain ⟨p, hp, hp1⟩ := spec_l4Piece_ev (b.extract 0 j) (by omega)
        have hlt := bytesOf_length (b.extract 0 j)
        have hp2 := pieceL_len (bytesOf (b.extract 0 j)) (by omega)
        have hp3 : p.size ≤ (b.extract 0 j).size + 20 := by rw [size_len, hp1]; omega
        obtain ⟨t, h2, h3, h4⟩ := spec_l4Text_l0 x1 h1 n (i + 1) (b.extract j b.size) (s ++ p) (by omega) (by omega) (by rw [ByteArray.size_append]; omega) (by omega)
        refine ⟨t, Ev.bind hp ?_, ?_, h4⟩
        · simp only [if_pos (show s.size + p.size ≤ 9223372036854775807 by omega), hw]; exact h2
        · rw [h3, bytesOf_append, hp1, bytesOf_take, bytesOf_dropS, e1, e2, List.append_assoc]
      by_cases q1 : m > (b.size : Int)
      · obtain ⟨t, h2, h3⟩ := key b.size (by rw [List.take_of_length_le (by omega), List.take_of_length_le (by omega)]) (by rw [List.drop_eq_nil_of_le (by omega), List.drop_eq_nil_of_le (by omega)])
        refine ⟨t, ?_, h3⟩
        apply ev_succ
        simp only [spec_l4Text.l0, if_pos (show (i : Int) < x1.length by omega), if_pos (show (0 : Int) ≤ (i : Int) by omega), hr, if_neg q, if_pos q1, if_pos (show (0 : Int) ≤ (b.size : Int) by omega), Int.le_refl, if_true]
        exact h2
      · obtain ⟨t, h2, h3⟩ := key m.toNat rfl rfl
        refine ⟨t, ?_, h3⟩
        apply ev_succ
        simp only [spec_l4Text.l0, if_pos (show (i : Int) < x1.length by omega), if_pos (show (0 : Int) ≤ (i : Int) by omega), hr, if_neg q, if_neg q1, if_pos (show (0 : Int) ≤ m by omega), if_pos (show m ≤ (b.size : Int) by omega)]
        exact h2
theorem spec_l4Text_ev (b : ByteArray) (x1 : List Int) (hb : b.size ≤ 1048576) (h1 : x1.length ≤ 1048576) : ∃ t, Ev (fun k => spec_l4Text.f k b x1) t ∧ bytesOf t = chunkL (bytesOf b) x1 ∧ t.size ≤ 100000000 := by
  have := spec_l4Text_l0 x1 h1 x1.length 0 b ⟨#[]⟩ rfl (by omega) (by have c0 : (⟨#[]⟩ : ByteArray).size = 0 := rfl; omega) hb
  exact this

def chunkI : List Int → List Int → List Int
  | _, [] => [48, 13, 10, 13, 10]
  | b, n :: r => if n < 1 then chunkI b r else pieceL (b.take n.toNat) ++ chunkI (b.drop n.toNat) r
theorem chunkI_eq : ∀ (l b : List Int) (m : Int), (b.length : Int) ≤ m → chunkI b (l ++ [m]) = chunkL b l
  | [], b, m, h => by
    simp only [List.nil_append, chunkI, chunkL]
    split
    · have : b = [] := List.length_eq_zero_iff.1 (by omega)
      subst this; rfl
    · rw [List.take_of_length_le (by omega)]
  | n :: l, b, m, h => by
    simp only [List.cons_append, chunkI, chunkL]
    split
    · exact chunkI_eq l b m h
    · rw [chunkI_eq l _ m (by rw [List.length_drop]; omega)]
theorem copyInts_eq (l : List Int) (h : l.length ≤ 1048576) : impl_copyInts.f l = some l := by
  unfold impl_copyInts.f
  simp only [List.nil_append, List.length_nil]
  rw [if_pos (by omega)]
theorem impl_PutChunks_l0 (L : List Int) (h1 : L.length ≤ 1048577) : ∀ (n i : Nat) (b s : ByteArray), L.length - i = n → i ≤ L.length → s.size + b.size ≤ 20 * i + 1048576 → b.size ≤ 1048576 →
    ∃ t, Ev (fun k => impl_PutChunks.l0 k b s L (L.length : Int) (i : Int)) t ∧ t = bytesOf s ++ chunkI (bytesOf b) (L.drop i)
  | 0, i, b, s, hn, hi, hs, hb => by
    have c1 : (⟨#[48]⟩ : ByteArray).size = 1 := rfl
    have c2 : (⟨#[13, 10]⟩ : ByteArray).size = 2 := rfl
    refine ⟨_, ?_, rfl⟩
    apply ev_succ
    simp only [impl_PutChunks.l0, if_neg (show ¬ (i : Int) < L.length by omega), ByteArray.size_append, c1, c2]
    rw [if_pos (by omega), if_pos (by omega), if_pos (by omega), if_pos (by omega), List.drop_eq_nil_of_le (by omega)]
    simp only [bytesOf_append, crlf_bytes, zero_bytes, chunkI, List.append_assoc, List.cons_append, List.nil_append]
    exact Ev.now _
  | n + 1, i, b, s, hn, hi, hs, hb => by
    have hil : i < L.length := by omega
    obtain ⟨hr, _, _⟩ := rd_drop' (List.drop_eq_getElem_cons hil)
    have hw : wrap64 ((i : Int) + 1) = ((i + 1 : Nat) : Int) := by rw [wrap_id (by omega) (by omega)]; omega
    have hl := bytesOf_length b
    have c2 : (⟨#[13, 10]⟩ : ByteArray).size = 2 := rfl
    rw [List.drop_eq_getElem_cons hil]
    generalize L[i] = m at hr
    by_cases q : m < 1
    · obtain ⟨t, h2, h3⟩ := impl_PutChunks_l0 L h1 n (i + 1) b s (by omega) (by omega) (by omega) hb
      refine ⟨t, ?_, by simpa only [chunkI, if_pos q] using h3⟩
      apply ev_succ
      simp only [impl_PutChunks.l0, if_pos (show (i : Int) < L.length by omega), if_pos (show (0 : Int) ≤ (i : Int) by omega), hr, if_pos q, hw]
      exact h2
    · simp only [chunkI, if_neg q]
      by_cases q0 : b.toList = ([] : List UInt8)
      · have hb0 := (empty_iff b).1 q0
        obtain ⟨t, h2, h3⟩ := impl_PutChunks_l0 L h1 n (i + 1) b s (by omega) (by omega) (by omega) hb
        refine ⟨t, ?_, ?_⟩
        · apply ev_succ
          simp only [impl_PutChunks.l0, if_pos (show (i : Int) < L.length by omega), if_pos (show (0 : Int) ≤ (i : Int) by omega), hr, if_neg q, if_pos q0, hw]
          exact h2
        · rw [h3, hb0]
          simp [pieceL]
      · have hb0 : bytesOf b ≠ [] := fun e => q0 ((empty_iff b).2 e)
        have hb1 : 0 < b.size := by
          rcases Nat.eq_zero_or_pos b.size with e | e
          · rw [e] at hl; exact absurd (List.length_eq_zero_iff.1 hl) hb0
          · exact e
        obtain ⟨j, hj, hj1, hj2⟩ : ∃ j : Nat, mn m (b.size : Int) = (j : Int) ∧ j = min m.toNat b.size ∧ 1 ≤ j := ⟨min m.toNat b.size, by unfold mn; split <;> omega, rfl, by omega⟩
        have e1 : (bytesOf b).take j = (bytesOf b).take m.toNat := by rw [List.take_eq_take_iff]; omega
        have e2 : (bytesOf b).drop j = (bytesOf b).drop m.toNat := by
          rcases Nat.lt_or_ge m.toNat b.size with h | h
          · rw [show j = m.toNat by omega]
          · rw [List.drop_eq_nil_of_le (by omega), List.drop_eq_nil_of_le (by omega)]
        have ht : (b.extract 0 j).size = j := by rw [size_len, bytesOf_take, List.length_take]; omega
        have hd : (b.extract j b.size).size + j = b.size := by rw [size_len, bytesOf_dropS, List.length_drop]; omega
        have h6 := hexN_len 5 j (by omega)
        have hx := strHex_size j
        have hh : impl_Hex.f ((j : Nat) : Int) = some (strOfNums (hexN j)) := by rw [impl_Hex_eq _ (by omega), Int.toNat_natCast]
        have hp : bytesOf (((strOfNums (hexN j) ++ (⟨#[13, 10]⟩ : ByteArray)) ++ b.extract 0 j) ++ (⟨#[13, 10]⟩ : ByteArray)) = pieceL ((bytesOf b).take m.toNat) := by
          rw [bytesOf_append, bytesOf_append, bytesOf_append, strHex_bytes, crlf_bytes, bytesOf_take, e1]
          unfold pieceL
          rw [if_neg]
          · rw [← e1, List.length_take, show min j (bytesOf b).length = j by omega]
          · intro e
            have := congrArg List.length e
            rw [← e1, List.length_take] at this
            rw [List.length_nil] at this
            omega
        obtain ⟨t, h2, h3⟩ := impl_PutChunks_l0 L h1 n (i + 1) (b.extract j b.size) (s ++ (((strOfNums (hexN j) ++ (⟨#[13, 10]⟩ : ByteArray)) ++ b.extract 0 j) ++ (⟨#[13, 10]⟩ : ByteArray))) (by omega) (by omega) (by simp only [ByteArray.size_append, c2]; omega) (by omega)
        refine ⟨t, ?_, ?_⟩
        · apply ev_succ
          simp only [impl_PutChunks.l0, if_pos (show (i : Int) < L.length by omega), if_pos (show (0 : Int) ≤ (i : Int) by omega), hr, if_neg q, if_neg q0, hj, hh, Option.bind_some, Int.toNat_natCast]
          simp only [ByteArray.size_append, c2, ht, if_pos (show (strOfNums (hexN j)).size + 2 ≤ 9223372036854775807 by omega), if_pos (show (0 : Int) ≤ (j : Int) by omega), if_pos (show (j : Int) ≤ (b.size : Int) by omega), if_pos (show (strOfNums (hexN j)).size + 2 + j ≤ 9223372036854775807 by omega), if_pos (show (strOfNums (hexN j)).size + 2 + j + 2 ≤ 9223372036854775807 by omega), if_pos (show s.size + ((strOfNums (hexN j)).size + 2 + j + 2) ≤ 9223372036854775807 by omega), hw]
          exact h2
        · rw [h3, bytesOf_append, hp, bytesOf_dropS, e2, List.append_assoc]
theorem impl_PutChunks_ev (b : ByteArray) (l : List Int) (hb : b.size ≤ 1048576) (hl : l.length ≤ 1048576) : Ev (fun k => impl_PutChunks.f k b l) (chunkL (bytesOf b) l) := by
  unfold impl_PutChunks.f
  rw [copyInts_eq l hl]
  simp only [Option.bind_some, if_pos (show l.length < 17592186044416 by omega)]
  obtain ⟨t, h2, h3⟩ := impl_PutChunks_l0 (l ++ [(b.size : Int)]) (by simp; omega) _ 0 b ⟨#[]⟩ rfl (by omega) (by have c0 : (⟨#[]⟩ : ByteArray).size = 0 := rfl; omega) hb
  rw [List.drop_zero, chunkI_eq l (bytesOf b) (b.size : Int) (by rw [bytesOf_length]; exact Int.le_refl _)] at h3
  rw [show bytesOf (⟨#[]⟩ : ByteArray) = [] from rfl, List.nil_append] at h3
  subst h3
  exact h2

/-- a slice of numbers, as a law copies, compares and marks it -/
theorem toIntS_ev (l : List Int) (hl : l.length ≤ 35184372088832) : Ev (fun k => laws_toIntS.f k l) l := by
  unfold laws_toIntS.f
  simp only [if_pos (show (0 : Int) ≤ (l.length : Int) by omega), Int.toNat_natCast, if_pos hl]
  have := fill_loop l (fun x => x) (0 : Int) (by omega) (fun i x k => laws_toIntS.l0 k l x (i : Int)) ?_ ?_
  · simpa using this
  · intro i x hi
    apply ev_succ; simp only [laws_toIntS.l0, if_neg (show ¬ (i : Int) < l.length by omega)]; exact Ev.now _
  · intro i x c r hi hx hb hw1 ih
    have hbb : rd l (i : Int) = c := hb _
    apply ev_succ
    simp only [laws_toIntS.l0, if_pos (show (i : Int) < l.length by omega), if_pos (show (0 : Int) ≤ i by omega), if_pos (show (i : Int) < x.length by omega), hbb, hw1]
    exact ih
theorem eqIntS_ev (a b : List Int) (ha : a.length ≤ 9223372036854775806) : Ev (fun k => laws_eqIntS.f k a b) (eqb a b) := by
  unfold laws_eqIntS.f
  refine ev_ite (fun q => ?_) (fun q => ?_)
  · have q' : a.length = b.length := by omega
    refine eq_loop a b (· = ·) q' ha (fun i k => laws_eqIntS.l0 k a b (i : Int)) _ ((eqb_iff a b).trans (list_eq_iff a b q')) ?_ ?_
    · intro i hi
      apply ev_succ; simp only [laws_eqIntS.l0, if_neg (show ¬ (i : Int) < a.length by omega)]; exact Ev.now _
    · intro i x y v hi hx hy hw1 ih
      have hxx : rd a (i : Int) = x := hx _
      have hyy : rd b (i : Int) = y := hy _
      refine ⟨fun hR => ?_, fun hR => ?_⟩
      · apply ev_succ
        simp only [laws_eqIntS.l0, if_pos (show (i : Int) < a.length by omega), if_pos (show (0 : Int) ≤ i by omega), if_pos (show (i : Int) < b.length by omega), hxx, hyy, hw1, if_pos hR]; exact ih
      · apply ev_succ
        simp only [laws_eqIntS.l0, if_pos (show (i : Int) < a.length by omega), if_pos (show (0 : Int) ≤ i by omega), if_pos (show (i : Int) < b.length by omega), hxx, hyy, hw1, if_neg hR]; exact Ev.now _
  · rw [eqb_ne (fun h => q (by rw [h]))]; exact Ev.now _
theorem markIntS_l0 : ∀ (n : Nat) (x : List Int) (a : Int) (i : Nat), x.length - i = n → i ≤ x.length → x.length ≤ 8796093022208 → 0 ≤ a → a + n ≤ 1125899906842624 → ∃ y, Ev (fun k => laws_markIntS.l0 k x a (i : Int)) (a + n, y)
  | 0, x, a, i, hn, hi, hl, h0, h1 => by
    refine ⟨x, ?_⟩
    apply ev_succ
    simp only [laws_markIntS.l0, if_neg (show ¬ (i : Int) < x.length by omega)]
    rw [show a + ((0 : Nat) : Int) = a by omega]; exact Ev.now _
  | n + 1, x, a, i, hn, hi, hl, h0, h1 => by
    obtain ⟨y, h2⟩ := markIntS_l0 n (x.set i a) (a + 1) (i + 1) (by simp; omega) (by simp; omega) (by simp; omega) (by omega) (by omega)
    refine ⟨y, ?_⟩
    apply ev_succ
    simp only [laws_markIntS.l0, if_pos (show (i : Int) < x.length by omega), if_pos (show (0 : Int) ≤ i by omega), Int.toNat_natCast, wrap_id (x := a + 1) (by omega) (by omega), show wrap64 ((i : Int) + 1) = ((i + 1 : Nat) : Int) from by rw [wrap_id (by omega) (by omega)]; omega]
    rw [show a + ((n + 1 : Nat) : Int) = a + 1 + n by omega]; exact h2
theorem markIntS_ev (x : List Int) (a : Int) (hl : x.length ≤ 8796093022208) (h0 : 0 ≤ a) (h1 : a ≤ 8796093022208) : ∃ y, Ev (fun k => laws_markIntS.f k x a) (a + x.length, y) :=
  markIntS_l0 x.length x a 0 rfl (by omega) hl h0 (by omega)

theorem toH_sizes {l : List S122} {n : Int} (h : ∀ x ∈ l, (x.f0.size : Int) ≤ n ∧ (x.f1.size : Int) ≤ n) (hn : n ≤ 1048576) : ∀ x ∈ l.map toH, x.f0.size ≤ 1048576 ∧ x.f1.size ≤ 1048576 := by
  intro x hx
  obtain ⟨y, hy, rfl⟩ := List.mem_map.1 hx
  obtain ⟨h1, h2⟩ := h y hy
  exact ⟨by show y.f0.size ≤ _; omega, by show y.f1.size ≤ _; omega⟩

theorem eqByteS_ev (a b : List Int) (ha : a.length ≤ 9223372036854775806) : Ev (fun k => laws_eqByteS.f k a b) (eqb a b) := by
  unfold laws_eqByteS.f
  refine ev_ite (fun q => ?_) (fun q => ?_)
  · have q' : a.length = b.length := by omega
    refine eq_loop a b (· = ·) q' ha (fun i k => laws_eqByteS.l0 k a b (i : Int)) _ ((eqb_iff a b).trans (list_eq_iff a b q')) ?_ ?_
    · intro i hi
      apply ev_succ; simp only [laws_eqByteS.l0, if_neg (show ¬ (i : Int) < a.length by omega)]; exact Ev.now _
    · intro i x y v hi hx hy hw1 ih
      have hxx : rd a (i : Int) = x := hx _
      have hyy : rd b (i : Int) = y := hy _
      refine ⟨fun hR => ?_, fun hR => ?_⟩
      · apply ev_succ
        simp only [laws_eqByteS.l0, if_pos (show (i : Int) < a.length by omega), if_pos (show (0 : Int) ≤ i by omega), if_pos (show (i : Int) < b.length by omega), hxx, hyy, hw1, if_pos hR]; exact ih
      · apply ev_succ
        simp only [laws_eqByteS.l0, if_pos (show (i : Int) < a.length by omega), if_pos (show (0 : Int) ≤ i by omega), if_pos (show (i : Int) < b.length by omega), hxx, hyy, hw1, if_neg hR]; exact Ev.now _
  · rw [eqb_ne (fun h => q (by rw [h]))]; exact Ev.now _

theorem markByteS_l0 : ∀ (n : Nat) (x : List Int) (a : Int) (i : Nat), x.length - i = n → i ≤ x.length → x.length ≤ 8796093022208 → 0 ≤ a → a + n ≤ 1125899906842624 → ∃ y, Ev (fun k => laws_markByteS.l0 k x a (i : Int)) (a + n, y) ∧ y.length = x.length ∧ (∀ j, j < i → y[j]? = x[j]?) ∧ ∀ j, i ≤ j → j < x.length → y[j]? = some ((a + (j - i : Nat)) % 256)
  | 0, x, a, i, hn, hi, hl, h0, h1 => by
    refine ⟨x, ?_, rfl, fun _ _ => rfl, fun j h2 h3 => by omega⟩
    apply ev_succ
    simp only [laws_markByteS.l0, if_neg (show ¬ (i : Int) < x.length by omega)]
    rw [show a + ((0 : Nat) : Int) = a by omega]; exact Ev.now _
  | n + 1, x, a, i, hn, hi, hl, h0, h1 => by
    obtain ⟨y, h2, h3, h4, h5⟩ := markByteS_l0 n (x.set i (a % 256)) (a + 1) (i + 1) (by simp; omega) (by simp; omega) (by simp; omega) (by omega) (by omega)
    refine ⟨y, ?_, by rw [h3]; simp, ?_, ?_⟩
    · apply ev_succ
      simp only [laws_markByteS.l0, if_pos (show (i : Int) < x.length by omega), if_pos (show (0 : Int) ≤ i by omega), Int.toNat_natCast, wrap_id (x := a + 1) (by omega) (by omega), show wrap64 ((i : Int) + 1) = ((i + 1 : Nat) : Int) from by rw [wrap_id (by omega) (by omega)]; omega]
      rw [show a + ((n + 1 : Nat) : Int) = a + 1 + n by omega]; exact h2
    · intro j hj
      rw [h4 j (by omega), List.getElem?_set, if_neg (by omega)]
    · intro j hj hx
      rcases Nat.lt_or_ge i j with q | q
      · rw [h5 j (by omega) (by simp; omega)]
        congr 2; omega
      · have : j = i := by omega
        subst this
        rw [h4 j (by omega), List.getElem?_set, if_pos rfl, if_pos (by omega)]
        congr 2; omega
def Marked (a : Int) (y : List Int) : Prop := ∀ j, j < y.length → y[j]? = some ((a + (j : Int)) % 256)
theorem markByteS_ev (x : List Int) (a : Int) (hl : x.length ≤ 8796093022208) (h0 : 0 ≤ a) (h1 : a ≤ 8796093022208) : ∃ y, Ev (fun k => laws_markByteS.f k x a) (a + x.length, y) ∧ y.length = x.length ∧ Marked a y := by
  obtain ⟨y, h2, h3, _, h5⟩ := markByteS_l0 x.length x a 0 rfl (by omega) hl h0 (by omega)
  refine ⟨y, h2, h3, fun j hj => ?_⟩
  rw [h5 j (by omega) (by omega)]
  rfl
theorem heldByteS_l0 : ∀ (n : Nat) (y : List Int) (a : Int) (i : Nat), y.length - i = n → i ≤ y.length → y.length ≤ 8796093022208 → 0 ≤ a → a ≤ 8796093022208 → Marked a y → Ev (fun k => laws_heldByteS.l0 k y (a + i) (i : Int)) (a + y.length)
  | 0, y, a, i, hn, hi, hl, h0, h1, hm => by
    apply ev_succ
    simp only [laws_heldByteS.l0, if_neg (show ¬ (i : Int) < y.length by omega)]
    rw [show a + (y.length : Int) = a + i by omega]; exact Ev.now _
  | n + 1, y, a, i, hn, hi, hl, h0, h1, hm => by
    have ih := heldByteS_l0 n y a (i + 1) (by omega) (by omega) hl h0 h1 hm
    have hr : rd y (i : Int) = (a + i) % 256 := by
      unfold rd
      rw [Int.toNat_natCast, List.getD_eq_getElem?_getD, hm i (by omega)]; rfl
    apply ev_succ
    simp only [laws_heldByteS.l0, if_pos (show (i : Int) < y.length by omega), if_pos (show (0 : Int) ≤ i by omega), hr, if_true, show wrap64 ((i : Int) + 1) = ((i + 1 : Nat) : Int) from by rw [wrap_id (by omega) (by omega)]; omega, show wrap64 (a + (i : Int) + 1) = a + ((i + 1 : Nat) : Int) from by rw [wrap_id (by omega) (by omega)]; omega]
    exact ih
theorem heldByteS_ev (y : List Int) (a : Int) (hl : y.length ≤ 8796093022208) (h0 : 0 ≤ a) (h1 : a ≤ 8796093022208) (hm : Marked a y) : Ev (fun k => laws_heldByteS.f k y a) (a + y.length) := by
  have := heldByteS_l0 y.length y a 0 rfl (by omega) hl h0 h1 hm
  simpa [laws_heldByteS.f] using this

/-- the digits of a number, as bytes -/
def numD (u : Nat) : List Int := (Lib.decDigits u).map fun b => (b.toNat : Int)
theorem numD_step (u : Nat) (h : 9 < u) : numD u = numD (u / 10) ++ [48 + ((u % 10 : Nat) : Int)] := by
  unfold numD
  rw [Lib.decDigits, dif_neg (by omega), List.map_append]
  congr 1
  simp only [List.map_cons, List.map_nil, List.cons.injEq, and_true]
  rw [show (UInt8.ofNat (48 + u % 10)).toNat = 48 + u % 10 from by simp; omega]
  omega
theorem numD_low (u : Nat) (h : u ≤ 9) : numD u = [48 + (u : Int)] := by
  unfold numD
  rw [Lib.decDigits, dif_pos (by omega)]
  simp only [List.map_cons, List.map_nil, List.cons.injEq, and_true]
  rw [show (UInt8.ofNat (48 + u)).toNat = 48 + u from by simp; omega]
  omega
theorem numD_range (u : Nat) : ∀ x ∈ numD u, 0 ≤ x ∧ x < 256 := by
  intro x hx
  obtain ⟨b, _, rfl⟩ := List.mem_map.1 hx
  have := b.toNat_lt
  omega
theorem strNum (u : Nat) : (⟨(Lib.decDigits u).toArray⟩ : ByteArray) = strOfNums (numD u) := by
  apply bytesOf_inj
  rw [bytesOf_strOfNums _ (numD_range u), bytesOf_mk]; rfl
theorem numD_len : ∀ (k u : Nat), u < 10 ^ (k + 1) → (numD u).length ≤ k + 1
  | 0, u, h => by rw [numD_low u (by simpa using Nat.le_of_lt_succ h)]; simp
  | k + 1, u, h => by
    rcases Nat.lt_or_ge 9 u with h9 | h9
    · rw [numD_step u h9, List.length_append]
      have := numD_len k (u / 10) (by rw [Nat.pow_succ] at h; omega)
      simp; omega
    · rw [numD_low u h9]; simp
/-- one digit in front -/
theorem digit_byte (u : Nat) (hu : u ≤ 9223372036854775807) : wrap64 (48 + Int.tmod (u : Int) 10) % 256 = 48 + ((u % 10 : Nat) : Int) := by
  have e : Int.tmod (u : Int) 10 = ((u % 10 : Nat) : Int) := by rw [Int.tmod_eq_emod_of_nonneg (by omega)]; omega
  rw [e, wrap_id (by omega) (by omega)]
  omega
theorem tdiv_ten (u : Nat) (hu : u ≤ 9223372036854775807) : wrap64 (Int.tdiv (u : Int) 10) = ((u / 10 : Nat) : Int) := by
  rw [Int.tdiv_eq_ediv_of_nonneg (by omega), wrap_id (by omega) (by omega)]
  omega

theorem markText_l0 : ∀ (u : Nat) (x : ByteArray), u ≤ 8796093022208 → x.size + u ≤ 17592186044416 → ∃ t, Ev (fun k => laws_markText.l0 k (u : Int) x) t := by
  intro u
  induction u using Nat.strongRecOn with
  | _ u ih =>
    intro x hu hx
    rcases Nat.eq_zero_or_pos u with h | h
    · subst h
      refine ⟨(⟨#[109]⟩ : ByteArray) ++ x, ?_⟩
      apply ev_succ
      simp only [laws_markText.l0, if_neg (show ¬ ((0 : Nat) : Int) > 0 by omega), if_pos (show 1 + x.size ≤ 9223372036854775807 by omega)]
      exact Ev.now _
    · have hs : (strOfNums [48 + ((u % 10 : Nat) : Int)]).size = 1 := by
        rw [size_len, bytesOf_strOfNums _ (by intro y hy; rw [List.mem_singleton] at hy; omega)]; rfl
      obtain ⟨t, ht⟩ := ih (u / 10) (by omega) (strOfNums [48 + ((u % 10 : Nat) : Int)] ++ x) (by omega) (by rw [ByteArray.size_append, hs]; omega)
      refine ⟨t, ?_⟩
      apply ev_succ
      simp only [laws_markText.l0, if_pos (show (u : Int) > 0 by omega), Option.bind_some, digit_byte u (by omega), tdiv_ten u (by omega), hs, if_pos (show 1 + x.size ≤ 9223372036854775807 by omega)]
      exact ht
theorem markText_ev (a : Int) (h1 : a ≤ 8796093022208) : ∃ t, Ev (fun k => laws_markText.f k a) t := by
  by_cases h : a ≤ 0
  · refine ⟨(⟨#[109, 48]⟩ : ByteArray), ?_⟩
    simp only [laws_markText.f, if_pos h]; exact Ev.now _
  · obtain ⟨t, ht⟩ := markText_l0 a.toNat (⟨#[]⟩ : ByteArray) (by omega) (by rw [show (⟨#[]⟩ : ByteArray).size = 0 from rfl]; omega)
    refine ⟨t, ?_⟩
    rw [Int.toNat_of_nonneg (by omega)] at ht
    simp only [laws_markText.f, if_neg h]; exact ht

theorem markHeadS_l0 : ∀ (n : Nat) (x : List S102) (a : Int) (i : Nat), x.length - i = n → i ≤ x.length → x.length ≤ 1048576 → 0 ≤ a → a + 2 * n ≤ 1073741824 → ∃ y, Ev (fun k => laws_markHeadS.l0 k x a (i : Int)) (a + 2 * n, y)
  | 0, x, a, i, hn, hi, hl, h0, h1 => by
    refine ⟨x, ?_⟩
    apply ev_succ
    simp only [laws_markHeadS.l0, if_neg (show ¬ (i : Int) < x.length by omega)]
    rw [show a + 2 * ((0 : Nat) : Int) = a by omega]; exact Ev.now _
  | n + 1, x, a, i, hn, hi, hl, h0, h1 => by
    obtain ⟨t1, e1⟩ := markText_ev a (by omega)
    obtain ⟨t2, e2⟩ := markText_ev (a + 1) (by omega)
    obtain ⟨y, h2⟩ := markHeadS_l0 n ((x.set i ⟨t1, (rd_T102 x i).f1⟩).set i ⟨(rd_T102 (x.set i ⟨t1, (rd_T102 x i).f1⟩) i).f0, t2⟩) (a + 2) (i + 1) (by simp; omega) (by simp; omega) (by simp; omega) (by omega) (by omega)
    refine ⟨y, ?_⟩
    apply ev_succ
    simp only [laws_markHeadS.l0, if_pos (show (i : Int) < x.length by omega), if_pos (show (0 : Int) ≤ i by omega), Int.toNat_natCast, wrap_id (x := a + 1) (by omega) (by omega), wrap_id (x := a + 1 + 1) (by omega) (by omega), show wrap64 ((i : Int) + 1) = ((i + 1 : Nat) : Int) from by rw [wrap_id (by omega) (by omega)]; omega, Option.bind_some]
    refine Ev.bind e1 (Ev.bind e2 ?_)
    rw [show a + 2 * ((n + 1 : Nat) : Int) = a + 2 + 2 * n by omega, show a + 1 + 1 = a + 2 by omega]; exact h2
theorem markHeadS_ev (x : List S102) (a : Int) (hl : x.length ≤ 1048576) (h0 : 0 ≤ a) (h1 : a ≤ 1048576) : ∃ y, Ev (fun k => laws_markHeadS.f k x a) (a + 2 * x.length, y) :=
  markHeadS_l0 x.length x a 0 rfl (by omega) hl h0 (by omega)

theorem FnExactPutChunked : laws_FnExactPutChunked.Pure := by
  intro m p l b s hm hp hl hb _
  apply Ev.rounds
  unfold laws_FnExactPutChunked.f
  refine ev_ite (fun _ => Ev.now _) (fun qs => ?_)
  have hs9 : s.length ≤ 1048576 := by omega
  refine Ev.bind (szReq_ev m p l b 1048576 hm hp hl hb (by omega) (by omega)) (ev_ite (fun _ => Ev.now _) (fun q0 => ?_))
  obtain ⟨a0, a1, am, ap, ab, a3⟩ := szReq_le q0
  have c0 := toReq_ev m p l b (by omega)
  have cs := toIntS_ev s (by omega)
  have hl' : (l.map toH).length ≤ 1048576 := by simp; omega
  have hz := toH_sizes a3 (by omega)
  have hl9 : (l.map toH).length ≤ 9223372036854775806 := by omega
  have hm' : m.size ≤ 1048576 := by omega
  have hp' : p.size ≤ 1048576 := by omega
  have hb' : b.size ≤ 1048576 := by omega
  obtain ⟨t, ht, ht1, ht2⟩ := spec_l4Text_ev b s hb' hs9
  have hcl : (chunkL (bytesOf b) s).length ≤ 100000000 := by rw [← ht1, bytesOf_length]; exact ht2
  have es : Ev (fun k => spec_PutChunked.f k m p (l.map toH) b s) (putV m p (l.map toH) b (⟨#[116, 114, 97, 110, 115, 102, 101, 114, 45, 101, 110, 99, 111, 100, 105, 110, 103, 58, 32, 99, 104, 117, 110, 107, 101, 100, 13, 10]⟩ : ByteArray) (chunkL (bytesOf b) s)) := by
    unfold spec_PutChunked.f
    rw [← ht1]
    exact Ev.bind ht (Ev.bind (spec_l3Put_ev m p (l.map toH) b _ t hm' hp' hl' hz (by decide) (by omega)) (Ev.now _))
  have ei : Ev (fun k => impl_PutChunked.f k m p (l.map toH) b s) (putV m p (l.map toH) b (⟨#[116, 114, 97, 110, 115, 102, 101, 114, 45, 101, 110, 99, 111, 100, 105, 110, 103, 58, 32, 99, 104, 117, 110, 107, 101, 100, 13, 10]⟩ : ByteArray) (chunkL (bytesOf b) s)) := by
    unfold impl_PutChunked.f
    exact Ev.bind (impl_PutChunks_ev b s hb' hs9) (Ev.bind (impl_putReq_ev m p (l.map toH) b _ (chunkL (bytesOf b) s) hm' hp' hl' hz (by decide) (by omega)) (Ev.now _))
  have hv := putV_len m p (l.map toH) b (⟨#[116, 114, 97, 110, 115, 102, 101, 114, 45, 101, 110, 99, 111, 100, 105, 110, 103, 58, 32, 99, 104, 117, 110, 107, 101, 100, 13, 10]⟩ : ByteArray) (chunkL (bytesOf b) s)
  generalize putV m p (l.map toH) b (⟨#[116, 114, 97, 110, 115, 102, 101, 114, 45, 101, 110, 99, 111, 100, 105, 110, 103, 58, 32, 99, 104, 117, 110, 107, 101, 100, 13, 10]⟩ : ByteArray) (chunkL (bytesOf b) s) = V at es ei hv
  have hv : V.length ≤ 8796093022208 := by omega
  have ee := eqByteS_ev V V (by omega)
  rw [eqb_self] at ee
  have e2 := eqIntS_ev s s (by omega)
  rw [eqb_self] at e2
  refine Ev.bind c0 (Ev.bind cs (Ev.bind es (Ev.bind c0 (Ev.bind cs (Ev.bind ei (Ev.bind ee (ev_ite (fun _ => ?_) (fun q => absurd rfl q))))))))
  refine Ev.bind c0 (Ev.bind (eqReq_ev _ _ _ _ _ _ _ _ hl9) (ev_ite (fun _ => ?_) (fun q => absurd (decb_true ⟨rfl, rfl, rfl, rfl⟩) q)))
  refine Ev.bind cs (Ev.bind e2 (ev_ite (fun _ => ?_) (fun q => absurd rfl q)))
  obtain ⟨y, hy⟩ := markHeadS_ev (l.map toH) 1 hl' (by omega) (by omega)
  have hmr : Ev (fun k => laws_markReq.f k m p (l.map toH) b 1) (1 + 2 * ((l.map toH).length : Int), y) := by
    unfold laws_markReq.f
    exact Ev.bind hy (Ev.now _)
  obtain ⟨y2, hy2⟩ := markIntS_ev s (1 + 2 * ((l.map toH).length : Int)) (by omega) (by omega) (by omega)
  refine Ev.bind hmr (Ev.bind hy2 (ev_ite (fun q => absurd q (by show ¬ (1 + 2 * ((l.map toH).length : Int) + (s.length : Int)) < 0; omega)) (fun _ => ?_)))
  refine Ev.bind ee ?_
  apply ev_succ
  simp only [laws_FnExactPutChunked.j0, Bool.not_true, Bool.false_eq_true, if_false]
  obtain ⟨z, hz1, hz2, hz3⟩ := markByteS_ev V 1 hv (by omega) (by omega)
  have hh := heldByteS_ev z 1 (by omega) (by omega) (by omega) hz3
  rw [hz2] at hh
  refine Ev.bind hz1 (Ev.bind hh (ev_ite (fun q => absurd q (by omega)) (fun _ => ev_ite (fun _ => ?_) (fun q => absurd rfl q))))
  refine Ev.bind c0 (Ev.bind cs (Ev.bind ei (Ev.bind ee (ev_ite (fun _ => ?_) (fun q => absurd rfl q)))))
  exact Ev.bind hh (ev_ite (fun q => absurd q (by omega)) (fun _ => ev_ite (fun _ => Ev.now _) (fun q => absurd rfl q)))

end Go.Proofs.YtgfpiijpgpkoiabDoor.Pure
