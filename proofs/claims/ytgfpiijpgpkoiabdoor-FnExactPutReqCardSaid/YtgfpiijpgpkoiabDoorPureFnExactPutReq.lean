/- The program's PutReq answers as the reference's does, for all requests; no condition. -/
import Derived.Test.YtgfpiijpgpkoiabDoorGFnExactPutReqx7
import Derived.Test.YtgfpiijpgpkoiabDoorBase
import Derived.Lib.SlTrimSet
import Derived.Lib.Bytealg
import Derived.Lib.ItoaNum
namespace Go.Proofs.YtgfpiijpgpkoiabDoor.Pure
open Go.RowKit Go.Proofs.YtgfpiijpgpkoiabDoor.GFnExactPutReq Go.Proofs.YtgfpiijpgpkoiabDoor.Base Go.Proofs.YtgfpiijpgpkoiabDoorW.PrintWords Go.Proofs.YtgfpiijpgpkoiabDoorW.PrintLast
set_option linter.unusedVariables false
set_option linter.unusedSimpArgs false

/-- what is left of a measure behind heads; -1: nothing -/
def szHL : Int → List S122 → Int
  | left, [] => left
  | left, c :: r => if left - c.f0.size < 0 then -1 else if left - c.f0.size - c.f1.size < 0 then -1 else szHL (left - c.f0.size - c.f1.size) r
def szHeads (left : Int) (l : List S122) : Int := if left - l.length < 0 then -1 else szHL (left - l.length) l
theorem szHL_le : ∀ (l : List S122) (left : Int), 0 ≤ szHL left l → 0 ≤ left → szHL left l ≤ left ∧ ∀ x ∈ l, (x.f0.size : Int) ≤ left ∧ (x.f1.size : Int) ≤ left
  | [], left, h, _ => ⟨Int.le_refl _, fun x hx => by cases hx⟩
  | c :: r, left, h, h0 => by
    simp only [szHL] at h ⊢
    by_cases q : left - c.f0.size < 0
    · rw [if_pos q] at h; omega
    · rw [if_neg q] at h ⊢
      by_cases q2 : left - c.f0.size - c.f1.size < 0
      · rw [if_pos q2] at h; omega
      · rw [if_neg q2] at h ⊢
        have := szHL_le r (left - c.f0.size - c.f1.size) h (by omega)
        refine ⟨by omega, fun x hx => ?_⟩
        rcases List.mem_cons.mp hx with rfl | hx
        · omega
        · have := this.2 x hx; omega
theorem szHeads_le {left : Int} {l : List S122} (h : ¬ szHeads left l < 0) : (l.length : Int) ≤ left ∧ szHeads left l ≤ left ∧ ∀ x ∈ l, (x.f0.size : Int) ≤ left ∧ (x.f1.size : Int) ≤ left := by
  unfold szHeads at h ⊢
  by_cases q : left - l.length < 0
  · rw [if_pos q] at h; omega
  · rw [if_neg q] at h ⊢
    have := szHL_le l (left - l.length) (by omega) (by omega)
    exact ⟨by omega, by omega, fun x hx => by have := this.2 x hx; omega⟩
theorem szHeadS_ev (l : List S122) (left : Int) (hl : l.length ≤ 9223372036854775807 ∧ ∀ x ∈ l, (x.f0.size ≤ 9223372036854775807) ∧ (x.f1.size ≤ 9223372036854775807)) (h0 : 0 ≤ left) (h1 : left ≤ 1048576) : Ev (fun k => laws_szHeadS.f k l left) (szHeads left l) := by
  unfold laws_szHeadS.f szHeads
  rw [wrap_id (x := left - l.length) (by omega) (by omega)]
  refine ev_ite (fun q => ?_) (fun q => ?_)
  · rw [if_pos q]; exact Ev.now _
  · rw [if_neg q]
    refine list_loop_st l (by omega) (fun i x k => laws_szHeadS.l0 k l x (i : Int)) (fun _ x r => szHL x r) (fun i x r => 0 ≤ x ∧ x ≤ 1048576 ∧ ∀ c ∈ r, (c.f0.size ≤ 9223372036854775807) ∧ (c.f1.size ≤ 9223372036854775807)) ?_ ?_ 0 _ ⟨by omega, by omega, hl.2⟩
    · intro i x _ hi
      apply ev_succ; simp only [laws_szHeadS.l0, if_neg (show ¬ (i : Int) < l.length by omega)]; exact Ev.now _
    · intro i x c r ⟨hx0, hx1, hr⟩ h hb hi hw1 ih
      have hcs := hr c (by simp)
      have hbb : rd_T122 l (i : Int) = c := hb _
      apply ev_succ
      simp only [laws_szHeadS.l0, if_pos (show (i : Int) < l.length by omega), if_pos (show (0 : Int) ≤ i by omega), hbb, hw1, laws_szHead.f, szHL]
      rw [wrap_id (x := x - c.f0.size) (by omega) (by omega)]
      by_cases q0 : x - c.f0.size < 0
      · simp only [if_pos q0, Option.bind_some, if_pos (show (-1 : Int) < 0 by omega)]; exact Ev.now _
      · simp only [if_neg q0]
        rw [wrap_id (x := x - c.f0.size - c.f1.size) (by omega) (by omega)]
        by_cases q1 : x - c.f0.size - c.f1.size < 0
        · simp only [if_pos q1, Option.bind_some, if_pos (show (-1 : Int) < 0 by omega)]; exact Ev.now _
        · simp only [if_neg q1, Option.bind_some]
          exact ih _ ⟨by omega, by omega, fun d hd => hr d (by simp [hd])⟩
def toH (x : S122) : S102 := ⟨x.f0, x.f1⟩
theorem toHeadS_ev (l : List S122) (hl : l.length ≤ 8796093022208) : Ev (fun k => laws_toHeadS.f k l) (l.map toH) := by
  unfold laws_toHeadS.f
  simp only [if_pos (show (0 : Int) ≤ (l.length : Int) by omega), Int.toNat_natCast, if_pos hl]
  refine fill_loop l toH z102 (by omega) (fun i x k => laws_toHeadS.l0 k l x (i : Int)) ?_ ?_
  · intro i x hi
    apply ev_succ; simp only [laws_toHeadS.l0, if_neg (show ¬ (i : Int) < l.length by omega)]; exact Ev.now _
  · intro i x c r hi hx hb hw1 ih
    have hbb : rd_T122 l (i : Int) = c := hb _
    apply ev_succ
    simp only [laws_toHeadS.l0, if_pos (show (i : Int) < l.length by omega), if_pos (show (0 : Int) ≤ i by omega), if_pos (show (i : Int) < x.length by omega), hbb, hw1, laws_toHead.f, Option.bind_some]
    exact ih
theorem head_eq (x y : S102) : x = y ↔ x.f0 = y.f0 ∧ x.f1 = y.f1 := by cases x; cases y; simp
theorem eqHeadS_ev (a b : List S102) (ha : a.length ≤ 9223372036854775806) : Ev (fun k => laws_eqHeadS.f k a b) (eqb a b) := by
  unfold laws_eqHeadS.f
  refine ev_ite (fun q => ?_) (fun q => ?_)
  · have q' : a.length = b.length := by omega
    refine eq_loop a b (· = ·) q' ha (fun i k => laws_eqHeadS.l0 k a b (i : Int)) _ ((eqb_iff a b).trans (list_eq_iff a b q')) ?_ ?_
    · intro i hi
      apply ev_succ; simp only [laws_eqHeadS.l0, if_neg (show ¬ (i : Int) < a.length by omega)]; exact Ev.now _
    · intro i x y v hi hx hy hw1 ih
      have hxx : rd_T102 a (i : Int) = x := hx _
      have hyy : rd_T102 b (i : Int) = y := hy _
      refine ⟨fun hR => ?_, fun hR => ?_⟩
      · apply ev_succ
        subst hR
        simp only [laws_eqHeadS.l0, if_pos (show (i : Int) < a.length by omega), if_pos (show (0 : Int) ≤ i by omega), if_pos (show (i : Int) < b.length by omega), hxx, hyy, hw1, laws_eqHead.f, if_true, Option.bind_some]; exact ih
      · apply ev_succ
        simp only [laws_eqHeadS.l0, if_pos (show (i : Int) < a.length by omega), if_pos (show (0 : Int) ≤ i by omega), if_pos (show (i : Int) < b.length by omega), hxx, hyy, hw1, laws_eqHead.f, toList_iff]
        by_cases e0 : x.f0 = y.f0
        · by_cases e1 : x.f1 = y.f1
          · exact absurd ((head_eq x y).mpr ⟨e0, e1⟩) hR
          · simp only [if_pos e0, if_neg e1, Option.bind_some]; simpa using Ev.now false
        · simp only [if_neg e0, Option.bind_some]; simpa using Ev.now false
  · rw [eqb_ne (fun h => q (by rw [h]))]; exact Ev.now _

def lenB (s : ByteArray) (a b : Int) : Bool := decide (a ≤ (s.size : Int)) && decide ((s.size : Int) ≤ b)

/-- byte classes -/
def plainC (c : Int) : Bool := decide (32 ≤ c) && decide (c ≤ 126)
def smallC (c : Int) : Bool := decide (97 ≤ c) && decide (c ≤ 122)
def digitC (c : Int) : Bool := decide (48 ≤ c) && decide (c ≤ 57)
def largeC (c : Int) : Bool := decide (65 ≤ c) && decide (c ≤ 90)

theorem in_eq (c a b : Int) : impl_in.f c a b = some (decide (a ≤ c) && decide (c ≤ b)) := by
  unfold impl_in.f; split <;> simp [*] <;> omega

theorem isSmall_eq (c : Int) : impl_isSmall.f c = some (smallC c) := by
  unfold impl_isSmall.f smallC; split <;> simp [*] <;> omega

theorem isDigit_eq (c : Int) : impl_isDigit.f c = some (digitC c) := by
  unfold impl_isDigit.f digitC; split <;> simp [*] <;> omega

theorem l1In_eq (c a b : Int) : spec_l1In.f c a b = some (decide (a ≤ c) && decide (c ≤ b)) := by
  unfold spec_l1In.f; split <;> simp [*] <;> omega

theorem l1Small_eq (c : Int) (h : wrap64 c = c) : spec_l1Small.f c = some (smallC c) := by
  unfold spec_l1Small.f; rw [h, l1In_eq]; rfl

theorem l1Digit_eq (c : Int) (h : wrap64 c = c) : spec_l1Digit.f c = some (digitC c) := by
  unfold spec_l1Digit.f; rw [h, l1In_eq]; rfl

/-- a small name -/
def snC (first : Bool) (c : Int) : Bool := smallC c || (!first && (digitC c || decide (c = 45)))
def snB : Nat → List Int → Bool
  | _, [] => true
  | i, c :: r => snC (i == 0) c && snB (i + 1) r
def smallName (s : ByteArray) : Bool := snB 0 (bytesOf s) && lenB s 1 20
theorem impl_SmallName_ev (s : ByteArray) (hs : s.size ≤ 140737488351232) : Ev (fun k => impl_SmallName.f k s) (smallName s) := by
  refine str_loop_st s (fun i (_ : Unit) k => impl_SmallName.l0 k s (i : Int)) (fun i _ r => snB i r && lenB s 1 20) (fun _ _ _ => True) ?_ ?_ hs 0 () trivial
  · intro i _ _ hi
    apply ev_succ; simp only [impl_SmallName.l0, if_neg (show ¬ (i : Int) < s.size by omega), in_eq, Option.bind_some]; exact Ev.now _
  · intro i _ c r _ h hb hi hw hw1 ih
    replace ih := ih () trivial
    apply ev_succ
    simp only [impl_SmallName.l0, if_pos (show (i : Int) < s.size by omega), if_pos (show (0 : Int) ≤ i by omega), hb, isSmall_eq, isDigit_eq, Option.bind_some, hw1]
    refine ev_iteB (fun q => ?_) (fun q => ev_ite (fun q0 => ?_) (fun q0 => ?_))
    · simpa [snB, snC, q] using ih
    · have : i = 0 := by omega
      subst this; simpa [snB, snC, q] using Ev.now false
    · have hi0 : (i == 0) = false := by simp; omega
      refine ev_iteB (fun q1 => ?_) (fun q1 => ev_ite (fun q2 => ?_) (fun q2 => ?_))
      · simpa [snB, snC, q, hi0, q1] using ih
      · subst q2; simpa [snB, snC, q, hi0, q1] using ih
      · simpa [snB, snC, q, hi0, q1, q2] using Ev.now false
theorem spec_SmallName_ev (s : ByteArray) (hs : s.size ≤ 140737488351232) : Ev (fun k => spec_SmallName.f k s) (smallName s) := by
  refine str_loop_st s (fun i (_ : Unit) k => spec_SmallName.l0 k s (i : Int)) (fun i _ r => snB i r && lenB s 1 20) (fun _ _ _ => True) ?_ ?_ hs 0 () trivial
  · intro i _ _ hi
    apply ev_succ; simp only [spec_SmallName.l0, if_neg (show ¬ (i : Int) < s.size by omega), l1In_eq, Option.bind_some]; exact Ev.now _
  · intro i _ c r _ h hb hi hw hw1 ih
    replace ih := ih () trivial
    apply ev_succ
    simp only [spec_SmallName.l0, if_pos (show (i : Int) < s.size by omega), if_pos (show (0 : Int) ≤ i by omega), hb, l1Small_eq c hw, l1Digit_eq c hw, Option.bind_some, hw1]
    refine ev_iteB (fun q => ?_) (fun q => ev_ite (fun q0 => ?_) (fun q0 => ?_))
    · simpa [snB, snC, q] using ih
    · have : i = 0 := by omega
      subst this; simpa [snB, snC, q] using Ev.now false
    · have hi0 : (i == 0) = false := by simp; omega
      refine ev_iteB (fun q1 => ?_) (fun q1 => ev_ite (fun q2 => ?_) (fun q2 => ?_))
      · simpa [snB, snC, q, hi0, q1] using ih
      · subst q2; simpa [snB, snC, q, hi0, q1] using ih
      · simpa [snB, snC, q, hi0, q1, q2] using Ev.now false

theorem isPlain_eq (c : Int) : impl_isPlain.f c = some (plainC c) := by
  unfold impl_isPlain.f plainC; split <;> simp [*] <;> omega
def plainB (l : List Int) : Bool := l.all plainC
theorem impl_Plain_ev (s : ByteArray) (hs : s.size ≤ 140737488351232) : Ev (fun k => impl_Plain.f k s) (plainB (bytesOf s)) := by
  refine str_loop s (fun i k => impl_Plain.l0 k s (i : Int)) plainB ?_ ?_ hs 0
  · intro i hi
    apply ev_succ; simp only [impl_Plain.l0, if_neg (show ¬ (i : Int) < s.size by omega)]; exact Ev.now _
  · intro i c r h hb hi hw hw1 ih
    apply ev_succ
    simp only [impl_Plain.l0, if_pos (show (i : Int) < s.size by omega), if_pos (show (0 : Int) ≤ i by omega), hb, isPlain_eq, Option.bind_some, hw1]
    refine ev_ite (fun h => ?_) (fun h => ?_)
    · simpa [plainB, h] using ih
    · simpa [plainB, h] using Ev.now _
theorem spec_Plain_ev (s : ByteArray) (hs : s.size ≤ 140737488351232) : Ev (fun k => spec_Plain.f k s) (plainB (bytesOf s)) := by
  refine str_loop s (fun i k => spec_Plain.l0 k s (i : Int)) plainB ?_ ?_ hs 0
  · intro i hi
    apply ev_succ; simp only [spec_Plain.l0, if_neg (show ¬ (i : Int) < s.size by omega)]; exact Ev.now _
  · intro i c r h hb hi hw hw1 ih
    apply ev_succ
    simp only [spec_Plain.l0, if_pos (show (i : Int) < s.size by omega), if_pos (show (0 : Int) ≤ i by omega), hb, hw, l1In_eq, Option.bind_some, hw1]
    refine ev_ite (fun h => ?_) (fun h => ?_)
    · have : plainC c = true := h
      simpa [plainB, this] using ih
    · have : plainC c = false := by simpa [plainC] using h
      simpa [plainB, this] using Ev.now _

def blankC (c : Int) : Bool := decide (c = 32) || decide (c = 9)
def trimL (l : List Int) : List Int := l.dropWhile blankC
def trimR (l : List Int) : List Int := (l.reverse.dropWhile blankC).reverse
theorem trimR_cons (c : Int) (r : List Int) : trimR (c :: r) = if trimR r = [] then (if blankC c = true then [] else [c]) else c :: trimR r := by
  unfold trimR
  rw [List.reverse_cons, List.dropWhile_append]
  by_cases h : r.reverse.dropWhile blankC = []
  · rw [h]
    by_cases q : blankC c = true
    · simp [q]
    · simp [q]
  · have : (r.reverse.dropWhile blankC).isEmpty = false := by simpa using h
    rw [this]
    simp [h]
theorem trim_comm : ∀ l : List Int, trimL (trimR l) = trimR (trimL l)
  | [] => rfl
  | c :: r => by
    have ih := trim_comm r
    rw [trimR_cons]
    by_cases q : blankC c = true
    · have e : trimL (c :: r) = trimL r := by unfold trimL; rw [List.dropWhile_cons_of_pos q]
      rw [e, ← ih]
      by_cases h : trimR r = []
      · rw [if_pos h, if_pos q, h]
      · rw [if_neg h]
        unfold trimL; rw [List.dropWhile_cons_of_pos q]
    · have e : ∀ x : List Int, trimL (c :: x) = c :: x := fun x => by unfold trimL; rw [List.dropWhile_cons_of_neg q]
      rw [e, trimR_cons]
      by_cases h : trimR r = []
      · rw [if_pos h, if_neg q]; exact e []
      · rw [if_neg h]; exact e _
def trim (s : ByteArray) : ByteArray := strOfNums (trimL (trimR (bytesOf s)))
theorem mem_trim {l : List Int} {x : Int} (h : x ∈ trimL (trimR l)) : x ∈ l := by
  unfold trimL trimR at h
  have h1 := (List.dropWhile_sublist _).subset h
  have h2 := (List.dropWhile_sublist _).subset (List.mem_reverse.1 h1)
  exact List.mem_reverse.1 h2
theorem trim_bytes (s : ByteArray) : bytesOf (trim s) = trimL (trimR (bytesOf s)) := bytesOf_strOfNums _ (fun x hx => bytesOf_range s x (mem_trim hx))
theorem trim_size (s : ByteArray) : (trim s).size ≤ s.size := by
  rw [size_len, trim_bytes, size_len]
  unfold trimL trimR
  have h1 := (List.dropWhile_sublist blankC (l := ((bytesOf s).reverse.dropWhile blankC).reverse)).length_le
  have h2 := (List.dropWhile_sublist blankC (l := (bytesOf s).reverse)).length_le
  simp only [List.length_reverse] at h1 h2
  omega
theorem dropWhile_map_ {α β : Type} (f : α → β) (p : β → Bool) : ∀ l : List α, (l.map f).dropWhile p = (l.dropWhile (fun x => p (f x))).map f
  | [] => rfl
  | x :: r => by
    rw [List.map_cons]
    by_cases q : p (f x) = true
    · rw [List.dropWhile_cons_of_pos q, List.dropWhile_cons_of_pos (by exact q), dropWhile_map_ f p r]
    · rw [List.dropWhile_cons_of_neg q, List.dropWhile_cons_of_neg (by exact q), List.map_cons]
theorem blank_u8 (b : UInt8) : ([32, 9] : List UInt8).contains b = blankC (b.toNat : Int) := by
  have H : ∀ n : Fin 256, ([32, 9] : List UInt8).contains (UInt8.ofNat n.val) = blankC (n.val : Int) := by decide +kernel
  have := H ⟨b.toNat, b.toNat_lt⟩
  simpa using this
theorem impl_Trim_eq (s : ByteArray) (hs : s.size ≤ 140737488351232) : impl_Trim.f s = some (trim s) := by
  unfold impl_Trim.f strings_Trim.f
  rw [if_pos ⟨by omega, by decide, by decide⟩]
  simp only [Option.bind_some]
  congr 1
  apply bytesOf_inj
  rw [trim_bytes, bytesOf_mk]
  unfold Lib.trimS Lib.trimLeftS Lib.trimRightS trimL trimR bytesOf
  have e : (fun x : UInt8 => ([32, 9] : List UInt8).contains x) = fun x => blankC (x.toNat : Int) := funext blank_u8
  show List.map _ (List.dropWhile (fun x => ([32, 9] : List UInt8).contains x) (List.dropWhile (fun x => ([32, 9] : List UInt8).contains x) s.data.toList.reverse).reverse) = _
  rw [e, ← List.map_reverse, dropWhile_map_, ← List.map_reverse, dropWhile_map_]
theorem l1Blank_eq (c : Int) : spec_l1Blank.f c = some (blankC c) := by
  unfold spec_l1Blank.f blankC
  by_cases h : c = 32
  · rw [if_pos h]; simp [h]
  · rw [if_neg h]; simp [h]; rfl
theorem bytesOf_one {x : ByteArray} {c : Int} {r : List Int} (h : bytesOf x = c :: r) : bt x 0 = c ∧ bytesOf (x.extract 1 x.size) = r ∧ x.size = r.length + 1 := by
  have hd : (bytesOf x).drop 0 = c :: r := by simpa using h
  obtain ⟨h1, h2, h3⟩ := bt_drop hd
  refine ⟨by simpa using h1, ?_, by rw [size_len, h]; rfl⟩
  rw [bytesOf_extract, List.take_of_length_le (by rw [← size_len]; exact Nat.le_refl _)]
  exact h3
theorem bytesOf_last {x : ByteArray} {c : Int} {r : List Int} (h : bytesOf x = r ++ [c]) : bt x (r.length : Int) = c ∧ bytesOf (x.extract 0 r.length) = r ∧ x.size = r.length + 1 := by
  have hd : (bytesOf x).drop r.length = [c] := by rw [h]; simp
  obtain ⟨h1, h2, h3⟩ := bt_drop hd
  refine ⟨h1, ?_, by rw [size_len, h]; simp⟩
  rw [bytesOf_extract, h]
  simp
theorem spec_Trim_l1 : ∀ (l : List Int) (x : ByteArray), bytesOf x = l.reverse → x.size ≤ 1048576 → Ev (fun k => spec_Trim.l1 k x) (strOfNums (trimR (bytesOf x)))
  | [], x, h, hs => by
    have h0 : x.size = 0 := by rw [size_len, h]; rfl
    apply ev_succ; simp only [spec_Trim.l1, if_neg (show ¬ (x.size : Int) > 0 by omega)]
    rw [h]
    have : x = strOfNums (trimR ([] : List Int).reverse) := by rw [← strOfNums_bytesOf x, h]; rfl
    rw [← this]; exact Ev.now _
  | c :: r, x, h, hs => by
    rw [List.reverse_cons] at h
    obtain ⟨h1, h2, h3⟩ := bytesOf_last h
    rw [List.length_reverse] at h1 h2 h3
    apply ev_succ
    simp only [spec_Trim.l1, if_pos (show (x.size : Int) > 0 by omega), show wrap64 ((x.size : Int) - 1) = (r.length : Int) from by rw [wrap_id (by omega) (by omega)]; omega, if_pos (show (0 : Int) ≤ (r.length : Int) by omega), if_pos (show (r.length : Int) < (x.size : Int) by omega), if_pos (show (r.length : Int) ≤ (x.size : Int) by omega), h1, l1Blank_eq, Option.bind_some, Int.toNat_natCast]
    refine ev_iteB (fun q => ?_) (fun q => ?_)
    · have ih := spec_Trim_l1 r (x.extract 0 r.length) h2 (by rw [size_len, h2, List.length_reverse]; omega)
      have e : trimR (bytesOf x) = trimR (bytesOf (x.extract 0 r.length)) := by
        rw [h, h2]
        unfold trimR
        rw [List.reverse_append, List.reverse_reverse]
        show (List.dropWhile blankC (c :: r)).reverse = _
        rw [List.dropWhile_cons_of_pos q]
      rw [e]; exact ih
    · have e : trimR (bytesOf x) = bytesOf x := by
        rw [h]
        unfold trimR
        rw [List.reverse_append, List.reverse_reverse]
        show (List.dropWhile blankC (c :: r)).reverse = _
        rw [List.dropWhile_cons_of_neg (by rw [q]; simp), List.reverse_cons]
      rw [e, strOfNums_bytesOf]; exact Ev.now _
theorem spec_Trim_l0 : ∀ (l : List Int) (x : ByteArray), bytesOf x = l → x.size ≤ 1048576 → Ev (fun k => spec_Trim.l0 k x) (strOfNums (trimR (trimL (bytesOf x))))
  | [], x, h, hs => by
    have h0 : x.size = 0 := by rw [size_len, h]; rfl
    apply ev_succ; simp only [spec_Trim.l0, if_neg (show ¬ (x.size : Int) > 0 by omega)]
    apply ev_succ; simp only [spec_Trim.j1]
    have := spec_Trim_l1 [] x h hs
    rwa [show trimL (bytesOf x) = bytesOf x by rw [h]; rfl]
  | c :: r, x, h, hs => by
    obtain ⟨h1, h2, h3⟩ := bytesOf_one h
    apply ev_succ
    simp only [spec_Trim.l0, if_pos (show (x.size : Int) > 0 by omega), if_pos (show (0 : Int) < (x.size : Int) by omega), if_pos (show (1 : Int) ≤ (x.size : Int) by omega), h1, l1Blank_eq, Option.bind_some]
    refine ev_iteB (fun q => ?_) (fun q => ?_)
    · have ih := spec_Trim_l0 r (x.extract 1 x.size) h2 (by rw [size_len, h2]; omega)
      have e : trimL (bytesOf x) = trimL (bytesOf (x.extract 1 x.size)) := by
        rw [h, h2]
        unfold trimL
        rw [List.dropWhile_cons_of_pos q]
      rw [e]; exact ih
    · have e : trimL (bytesOf x) = bytesOf x := by
        rw [h]
        unfold trimL
        rw [List.dropWhile_cons_of_neg (by rw [q]; simp)]
      rw [e]
      apply ev_succ; simp only [spec_Trim.j1]
      exact spec_Trim_l1 (bytesOf x).reverse x (by rw [List.reverse_reverse]) hs
theorem spec_Trim_ev (s : ByteArray) (hs : s.size ≤ 1048576) : Ev (fun k => spec_Trim.f k s) (trim s) := by
  unfold spec_Trim.f trim
  rw [trim_comm]
  exact spec_Trim_l0 _ s rfl hs

def valOk (s : ByteArray) : Bool := decide ((s.size : Int) ≤ 60) && (plainB (bytesOf s) && ((trim s).toList == s.toList))
def nameFree (s : ByteArray) : Bool := decide (¬ s.toList = ([99, 111, 110, 116, 101, 110, 116, 45, 108, 101, 110, 103, 116, 104] : List UInt8)) && decide (¬ s.toList = ([116, 114, 97, 110, 115, 102, 101, 114, 45, 101, 110, 99, 111, 100, 105, 110, 103] : List UInt8))
def headOk (h : S102) : Bool := smallName h.f0 && (valOk h.f1 && nameFree h.f0)
def headsOkL (l : List S102) : Bool := l.all headOk
def headsOk (l : List S102) : Bool := headsOkL l && decide ((l.length : Int) ≤ 8)
theorem impl_valOk_ev (s : ByteArray) (hs : s.size ≤ 1048576) : Ev (fun k => impl_valOk.f k s) (valOk s) := by
  unfold impl_valOk.f valOk
  refine ev_ite (fun q => ?_) (fun q => ?_)
  · rw [decide_eq_true q, Bool.true_and]
    refine Ev.bind (impl_Plain_ev s (by omega)) (ev_iteB (fun q1 => ?_) (fun q1 => ?_))
    · rw [q1, Bool.true_and]
      simp only [impl_Trim_eq s (by omega), Option.bind_some]; exact Ev.now _
    · rw [q1, Bool.false_and]; exact Ev.now _
  · rw [decide_eq_false q, Bool.false_and]; exact Ev.now _
theorem spec_l3Val_ev (s : ByteArray) (hs : s.size ≤ 1048576) : Ev (fun k => spec_l3Val.f k s) (valOk s) := by
  unfold spec_l3Val.f valOk
  refine ev_ite (fun q => ?_) (fun q => ?_)
  · rw [decide_eq_true q, Bool.true_and]
    refine Ev.bind (spec_Plain_ev s (by omega)) (ev_iteB (fun q1 => ?_) (fun q1 => ?_))
    · rw [q1, Bool.true_and]
      refine Ev.bind (spec_Trim_ev s hs) ?_
      exact Ev.now _
    · rw [q1, Bool.false_and]; exact Ev.now _
  · rw [decide_eq_false q, Bool.false_and]; exact Ev.now _
theorem impl_headsOk_ev (l : List S102) (hl : l.length ≤ 9223372036854775806) (hs : ∀ x ∈ l, x.f0.size ≤ 1048576 ∧ x.f1.size ≤ 1048576) : Ev (fun k => impl_headsOk.f k l) (headsOk l) := by
  refine list_loop_st l hl (fun i (_ : Unit) k => impl_headsOk.l0 k l l (l.length : Int) (i : Int)) (fun _ _ r => headsOkL r && decide ((l.length : Int) ≤ 8)) (fun _ _ r => ∀ x ∈ r, x.f0.size ≤ 1048576 ∧ x.f1.size ≤ 1048576) ?_ ?_ 0 () hs
  · intro i _ _ hi
    apply ev_succ; simp only [impl_headsOk.l0, if_neg (show ¬ (i : Int) < l.length by omega)]; exact Ev.now _
  · intro i _ c r hr h hb hi hw1 ih
    have hbb : rd_T102 l (i : Int) = c := hb _
    obtain ⟨hc0, hc1⟩ := hr c (by simp)
    replace ih := ih () (fun x hx => hr x (by simp [hx]))
    apply ev_succ
    simp only [impl_headsOk.l0, if_pos (show (i : Int) < l.length by omega), if_pos (show (0 : Int) ≤ i by omega), hbb, hw1]
    refine Ev.bind (impl_SmallName_ev c.f0 (by omega)) (ev_iteB (fun q1 => ?_) (fun q1 => ?_))
    · refine Ev.bind (impl_valOk_ev c.f1 (by omega)) (ev_iteB (fun q2 => ?_) (fun q2 => ?_))
      · refine ev_ite (fun q3 => ?_) (fun q3 => ev_ite (fun q4 => ?_) (fun q4 => ?_))
        · rw [show (headsOkL (c :: r) && decide ((l.length : Int) ≤ 8)) = false by simp [headsOkL, headOk, nameFree, q3]]; exact Ev.now _
        · rw [show (headsOkL (c :: r) && decide ((l.length : Int) ≤ 8)) = false by simp [headsOkL, headOk, nameFree, q4]]; exact Ev.now _
        · rw [show headsOkL (c :: r) = headsOkL r by simp [headsOkL, headOk, nameFree, q1, q2, q3, q4]]; exact ih
      · rw [show (headsOkL (c :: r) && decide ((l.length : Int) ≤ 8)) = false by simp [headsOkL, headOk, q2]]; exact Ev.now _
    · rw [show (headsOkL (c :: r) && decide ((l.length : Int) ≤ 8)) = false by simp [headsOkL, headOk, q1]]; exact Ev.now _
theorem spec_l3Heads_ev (l : List S102) (hl : l.length ≤ 9223372036854775806) (hs : ∀ x ∈ l, x.f0.size ≤ 1048576 ∧ x.f1.size ≤ 1048576) : Ev (fun k => spec_l3Heads.f k l) (headsOk l) := by
  refine list_loop_st l hl (fun i (_ : Unit) k => spec_l3Heads.l0 k l (i : Int)) (fun _ _ r => headsOkL r && decide ((l.length : Int) ≤ 8)) (fun _ _ r => ∀ x ∈ r, x.f0.size ≤ 1048576 ∧ x.f1.size ≤ 1048576) ?_ ?_ 0 () hs
  · intro i _ _ hi
    apply ev_succ; simp only [spec_l3Heads.l0, if_neg (show ¬ (i : Int) < l.length by omega)]; exact Ev.now _
  · intro i _ c r hr h hb hi hw1 ih
    have hbb : rd_T102 l (i : Int) = c := hb _
    obtain ⟨hc0, hc1⟩ := hr c (by simp)
    replace ih := ih () (fun x hx => hr x (by simp [hx]))
    apply ev_succ
    simp only [spec_l3Heads.l0, if_pos (show (i : Int) < l.length by omega), if_pos (show (0 : Int) ≤ i by omega), hbb, hw1]
    refine Ev.bind (spec_SmallName_ev c.f0 (by omega)) (ev_iteB (fun q1 => ?_) (fun q1 => ?_))
    · refine Ev.bind (spec_l3Val_ev c.f1 (by omega)) (ev_iteB (fun q2 => ?_) (fun q2 => ?_))
      · refine ev_ite (fun q3 => ?_) (fun q3 => ev_ite (fun q4 => ?_) (fun q4 => ?_))
        · rw [show (headsOkL (c :: r) && decide ((l.length : Int) ≤ 8)) = false by simp [headsOkL, headOk, nameFree, q3]]; exact Ev.now _
        · rw [show (headsOkL (c :: r) && decide ((l.length : Int) ≤ 8)) = false by simp [headsOkL, headOk, nameFree, q4]]; exact Ev.now _
        · rw [show headsOkL (c :: r) = headsOkL r by simp [headsOkL, headOk, nameFree, q1, q2, q3, q4]]; exact ih
      · rw [show (headsOkL (c :: r) && decide ((l.length : Int) ≤ 8)) = false by simp [headsOkL, headOk, q2]]; exact Ev.now _
    · rw [show (headsOkL (c :: r) && decide ((l.length : Int) ≤ 8)) = false by simp [headsOkL, headOk, q1]]; exact Ev.now _

def szReqV (left : Int) (m p : ByteArray) (l : List S122) (b : ByteArray) : Int :=
  if left - m.size < 0 then -1 else if left - m.size - p.size < 0 then -1 else if szHeads (left - m.size - p.size) l < 0 then -1 else if szHeads (left - m.size - p.size) l - b.size < 0 then -1 else szHeads (left - m.size - p.size) l - b.size
theorem szReq_ev (m p : ByteArray) (l : List S122) (b : ByteArray) (left : Int) (hm : m.size ≤ 9223372036854775807) (hp : p.size ≤ 9223372036854775807) (hl : l.length ≤ 9223372036854775807 ∧ ∀ x ∈ l, (x.f0.size ≤ 9223372036854775807) ∧ (x.f1.size ≤ 9223372036854775807)) (hb : b.size ≤ 9223372036854775807) (h0 : 0 ≤ left) (h1 : left ≤ 1048576) : Ev (fun k => laws_szReq.f k m p l b left) (szReqV left m p l b) := by
  unfold laws_szReq.f szReqV
  rw [wrap_id (x := left - m.size) (by omega) (by omega)]
  refine ev_ite (fun q => ?_) (fun q => ?_)
  · rw [if_pos q]; exact Ev.now _
  · rw [if_neg q, wrap_id (x := left - m.size - p.size) (by omega) (by omega)]
    refine ev_ite (fun q => ?_) (fun q => ?_)
    · rw [if_pos q]; exact Ev.now _
    · rw [if_neg q]
      refine Ev.bind (szHeadS_ev l _ hl (by omega) (by omega)) (ev_ite (fun q => ?_) (fun q => ?_))
      · rw [if_pos q]; exact Ev.now _
      · obtain ⟨_, a1, _⟩ := szHeads_le q
        rw [if_neg q, wrap_id (x := szHeads (left - m.size - p.size) l - b.size) (by omega) (by omega)]
        refine ev_ite (fun q1 => ?_) (fun q1 => ?_)
        · rw [if_pos q1]; exact Ev.now _
        · rw [if_neg q1]; exact Ev.now _
theorem szReq_le {left : Int} {m p : ByteArray} {l : List S122} {b : ByteArray} (h : ¬ szReqV left m p l b < 0) : (l.length : Int) ≤ left ∧ szReqV left m p l b ≤ left ∧ (m.size : Int) ≤ left ∧ (p.size : Int) ≤ left ∧ (b.size : Int) ≤ left ∧ ∀ x ∈ l, (x.f0.size : Int) ≤ left ∧ (x.f1.size : Int) ≤ left := by
  unfold szReqV at h ⊢
  by_cases q : left - m.size < 0
  · rw [if_pos q] at h; omega
  · rw [if_neg q] at h ⊢
    by_cases q : left - m.size - p.size < 0
    · rw [if_pos q] at h; omega
    · rw [if_neg q] at h ⊢
      by_cases q : szHeads (left - m.size - p.size) l < 0
      · rw [if_pos q] at h; omega
      · obtain ⟨a0, a1, a2⟩ := szHeads_le q
        rw [if_neg q] at h ⊢
        by_cases q1 : szHeads (left - m.size - p.size) l - b.size < 0
        · rw [if_pos q1] at h; omega
        · rw [if_neg q1] at h ⊢; exact ⟨by omega, by omega, by omega, by omega, by omega, fun x hx => by have := a2 x hx; omega⟩
theorem toReq_ev (m p : ByteArray) (l : List S122) (b : ByteArray) (hl : l.length ≤ 8796093022208) : Ev (fun k => laws_toReq.f k m p l b) (m, p, l.map toH, b) := by
  unfold laws_toReq.f
  exact Ev.bind (toHeadS_ev l hl) (Ev.now _)
def sameReqV (m p : ByteArray) (l : List S102) (b : ByteArray) (m' p' : ByteArray) (l' : List S102) (b' : ByteArray) : Prop := m = m' ∧ p = p' ∧ l = l' ∧ b = b'
theorem eqReq_ev (m p : ByteArray) (l : List S102) (b : ByteArray) (m' p' : ByteArray) (l' : List S102) (b' : ByteArray) (hl : l.length ≤ 9223372036854775806) : Ev (fun k => laws_eqReq.f k m p l b m' p' l' b') (decb (sameReqV m p l b m' p' l' b')) := by
  unfold laws_eqReq.f
  refine ev_ite (fun q => ?_) (fun q => ?_)
  · rw [toList_iff] at q
    refine ev_ite (fun q0 => ?_) (fun q0 => ?_)
    · rw [toList_iff] at q0
      refine Ev.bind (eqHeadS_ev l l' hl) (ev_iteB (fun q1 => ?_) (fun q1 => ?_))
      · rw [eqb_iff] at q1
        refine ev_ite (fun q2 => ?_) (fun q2 => ?_)
        · rw [toList_iff] at q2; rw [decb_true ⟨q, q0, q1, q2⟩]; exact Ev.now _
        · rw [toList_iff] at q2; rw [decb_false (fun h => q2 h.2.2.2)]; exact Ev.now _
      · have : ¬ l = l' := fun h => by rw [(eqb_iff l l').mpr h] at q1; cases q1
        rw [decb_false (fun h => this h.2.2.1)]; exact Ev.now _
    · rw [toList_iff] at q0; rw [decb_false (fun h => q0 h.2.1)]; exact Ev.now _
  · rw [toList_iff] at q; rw [decb_false (fun h => q h.1)]; exact Ev.now _

theorem isLarge_eq (c : Int) : impl_isLarge.f c = some (largeC c) := by
  unfold impl_isLarge.f largeC; split <;> simp [*] <;> omega

theorem l1Large_eq (c : Int) (h : wrap64 c = c) : spec_l1Large.f c = some (largeC c) := by
  unfold spec_l1Large.f; rw [h, l1In_eq]; rfl

theorem lit_iff (s : ByteArray) (l : List UInt8) : s.toList = l ↔ bytesOf s = l.map fun b => (b.toNat : Int) := by
  rw [Lib.toList_data]
  unfold bytesOf
  constructor
  · intro h; rw [h]
  · intro h; exact List.map_inj_right (fun x y hxy => UInt8.toNat_inj.mp (by omega)) |>.mp h
theorem indexByte_mem : ∀ (l : List UInt8) (c : UInt8), 0 ≤ Lib.indexByte l c ↔ c ∈ l
  | [], c => by simp [Lib.indexByte]
  | b :: l, c => by
    have ih := indexByte_mem l c
    have hg := Lib.indexByte_ge l c
    simp only [Lib.indexByte]
    by_cases h : b = c
    · subst h; simp
    · have h' : (b == c) = false := by simpa using h
      have h2 : ¬ c = b := fun e => h e.symm
      rw [h']
      simp only [Bool.false_eq_true, if_false, List.mem_cons, h2, false_or, ← ih]
      by_cases q : Lib.indexByte l c = -1
      · simp [q]
      · have : (Lib.indexByte l c == -1) = false := by simpa using q
        rw [this]; simp only [Bool.false_eq_true, if_false]; omega
theorem mem_bytes (s : ByteArray) (c : UInt8) : c ∈ s.data.toList ↔ (c.toNat : Int) ∈ bytesOf s := by
  unfold bytesOf
  rw [List.mem_map]
  constructor
  · intro h; exact ⟨c, h, rfl⟩
  · rintro ⟨d, hd, he⟩
    have : d = c := UInt8.toNat_inj.mp (by omega)
    rw [← this]; exact hd

def targetC (c : Int) : Bool := decide (33 ≤ c) && decide (c ≤ 126)
def targetOk (p : ByteArray) : Bool := lenB p 1 80 && (bytesOf p).all targetC
def methodOk (m : ByteArray) : Bool := (bytesOf m).all largeC && lenB m 1 9
def reqOk (m p : ByteArray) (l : List S102) (b : ByteArray) : Bool := methodOk m && (targetOk p && (headsOk l && decide ((b.size : Int) ≤ 200)))
theorem target_plain : ∀ l : List Int, l.all targetC = (plainB l && !decide ((32 : Int) ∈ l))
  | [] => rfl
  | c :: r => by
    have ih := target_plain r
    unfold plainB at ih ⊢
    rw [List.all_cons, List.all_cons, ih]
    have e : decide ((32 : Int) ∈ c :: r) = (decide (c = 32) || decide ((32 : Int) ∈ r)) := by
      rw [Bool.eq_iff_iff, Bool.or_eq_true, decide_eq_true_iff, decide_eq_true_iff, decide_eq_true_iff, List.mem_cons]; exact ⟨fun h => h.elim (fun e => .inl e.symm) .inr, fun h => h.elim (fun e => .inl e.symm) .inr⟩
    rw [e]
    have h1 : targetC c = (plainC c && !decide (c = 32)) := by
      unfold targetC plainC
      rw [Bool.eq_iff_iff]; simp; omega
    rw [h1]
    cases plainC c <;> cases decide (c = 32) <;> cases r.all plainC <;> cases decide ((32 : Int) ∈ r) <;> rfl
theorem impl_lineOk_ev (m p : ByteArray) (hm : m.size ≤ 1048576) (hp : p.size ≤ 1048576) : Ev (fun k => impl_lineOk.f k m p) (methodOk m && targetOk p) := by
  unfold methodOk
  rw [Bool.and_assoc]
  refine str_loop m (fun i k => impl_lineOk.l0 k m p (i : Int)) (fun r => r.all largeC && (lenB m 1 9 && targetOk p)) ?_ ?_ (by omega) 0
  · intro i hi
    apply ev_succ
    simp only [impl_lineOk.l0, if_neg (show ¬ (i : Int) < m.size by omega), in_eq, Option.bind_some]
    rw [List.all_nil, Bool.true_and]
    refine ev_iteB (fun q => ?_) (fun q => ?_)
    · rw [show lenB m 1 9 = true from q, Bool.true_and]
      refine ev_iteB (fun q1 => ?_) (fun q1 => ?_)
      · rw [show targetOk p = (bytesOf p).all targetC by unfold targetOk; rw [show lenB p 1 80 = true from q1, Bool.true_and], target_plain]
        refine Ev.bind (impl_Plain_ev p (by omega)) (ev_iteB (fun q2 => ?_) (fun q2 => ?_))
        · rw [q2, Bool.true_and]
          have e0 : strings_Contains.f p (⟨#[32]⟩ : ByteArray) = some (decide (0 ≤ Lib.indexByte p.data.toList 32)) := rfl
          have e1 : (0 ≤ Lib.indexByte p.data.toList 32) ↔ (32 : Int) ∈ bytesOf p := (indexByte_mem _ _).trans (mem_bytes p 32)
          simp only [e0, Option.bind_some, decide_eq_decide.2 e1]; exact Ev.now _
        · rw [q2, Bool.false_and]; exact Ev.now _
      · rw [show targetOk p = false by unfold targetOk; rw [show lenB p 1 80 = false from q1, Bool.false_and]]; exact Ev.now _
    · rw [show lenB m 1 9 = false from q, Bool.false_and]; exact Ev.now _
  · intro i c r h hb hi hw hw1 ih
    apply ev_succ
    simp only [impl_lineOk.l0, if_pos (show (i : Int) < m.size by omega), if_pos (show (0 : Int) ≤ i by omega), hb, isLarge_eq, Option.bind_some, hw1]
    refine ev_iteB (fun q => ?_) (fun q => ?_)
    · rw [List.all_cons, q, Bool.true_and]; exact ih
    · rw [List.all_cons, q, Bool.false_and, Bool.false_and]; exact Ev.now _
theorem spec_l3Method_ev (m : ByteArray) (hm : m.size ≤ 1048576) : Ev (fun k => spec_l3Method.f k m) (methodOk m) := by
  refine str_loop m (fun i k => spec_l3Method.l0 k m (i : Int)) (fun r => r.all largeC && lenB m 1 9) ?_ ?_ (by omega) 0
  · intro i hi
    apply ev_succ
    simp only [spec_l3Method.l0, if_neg (show ¬ (i : Int) < m.size by omega), l1In_eq, Option.bind_some]
    rw [List.all_nil, Bool.true_and]; exact Ev.now _
  · intro i c r h hb hi hw hw1 ih
    apply ev_succ
    simp only [spec_l3Method.l0, if_pos (show (i : Int) < m.size by omega), if_pos (show (0 : Int) ≤ i by omega), hb, l1Large_eq c hw, Option.bind_some, hw1]
    refine ev_iteB (fun q => ?_) (fun q => ?_)
    · rw [List.all_cons, q, Bool.true_and]; exact ih
    · rw [List.all_cons, q, Bool.false_and, Bool.false_and]; exact Ev.now _
theorem spec_l3Target_ev (p : ByteArray) (hp : p.size ≤ 1048576) : Ev (fun k => spec_l3Target.f k p) (targetOk p) := by
  unfold targetOk
  rw [Bool.and_comm]
  refine str_loop p (fun i k => spec_l3Target.l0 k p (i : Int)) (fun r => r.all targetC && lenB p 1 80) ?_ ?_ (by omega) 0
  · intro i hi
    apply ev_succ
    simp only [spec_l3Target.l0, if_neg (show ¬ (i : Int) < p.size by omega), l1In_eq, Option.bind_some]
    rw [List.all_nil, Bool.true_and]; exact Ev.now _
  · intro i c r h hb hi hw hw1 ih
    apply ev_succ
    simp only [spec_l3Target.l0, if_pos (show (i : Int) < p.size by omega), if_pos (show (0 : Int) ≤ i by omega), hb, hw, l1In_eq, Option.bind_some, hw1]
    refine ev_iteB (fun q => ?_) (fun q => ?_)
    · rw [List.all_cons, show targetC c = true from q, Bool.true_and]; exact ih
    · rw [List.all_cons, show targetC c = false from q, Bool.false_and, Bool.false_and]; exact Ev.now _
theorem impl_ReqOk_ev (m p : ByteArray) (l : List S102) (b : ByteArray) (hm : m.size ≤ 1048576) (hp : p.size ≤ 1048576) (hl : l.length ≤ 9223372036854775806) (hs : ∀ x ∈ l, x.f0.size ≤ 1048576 ∧ x.f1.size ≤ 1048576) : Ev (fun k => impl_ReqOk.f k m p l b) (reqOk m p l b) := by
  unfold impl_ReqOk.f reqOk
  rw [← Bool.and_assoc]
  refine Ev.bind (impl_lineOk_ev m p hm hp) (ev_iteB (fun q => ?_) (fun q => ?_))
  · rw [q, Bool.true_and]
    refine Ev.bind (impl_headsOk_ev l hl hs) (ev_iteB (fun q1 => ?_) (fun q1 => ?_))
    · rw [q1, Bool.true_and]; exact Ev.now _
    · rw [q1, Bool.false_and]; exact Ev.now _
  · rw [q, Bool.false_and]; exact Ev.now _
theorem spec_ReqOk_ev (m p : ByteArray) (l : List S102) (b : ByteArray) (hm : m.size ≤ 1048576) (hp : p.size ≤ 1048576) (hl : l.length ≤ 9223372036854775806) (hs : ∀ x ∈ l, x.f0.size ≤ 1048576 ∧ x.f1.size ≤ 1048576) : Ev (fun k => spec_ReqOk.f k m p l b) (reqOk m p l b) := by
  unfold spec_ReqOk.f reqOk
  refine Ev.bind (spec_l3Method_ev m hm) (ev_iteB (fun q => ?_) (fun q => ?_))
  · rw [q, Bool.true_and]
    refine Ev.bind (spec_l3Target_ev p hp) (ev_iteB (fun q0 => ?_) (fun q0 => ?_))
    · rw [q0, Bool.true_and]
      refine Ev.bind (spec_l3Heads_ev l hl hs) (ev_iteB (fun q1 => ?_) (fun q1 => ?_))
      · rw [q1, Bool.true_and]; exact Ev.now _
      · rw [q1, Bool.false_and]; exact Ev.now _
    · rw [q0, Bool.false_and]; exact Ev.now _
  · rw [q, Bool.false_and]; exact Ev.now _

def htCat (x : ByteArray) (h : S102) : ByteArray := x ++ ((((h.f0) ++ (⟨#[58, 32]⟩ : ByteArray)) ++ h.f1) ++ (⟨#[13, 10]⟩ : ByteArray))
def htL : ByteArray → List S102 → ByteArray
  | x, [] => x
  | x, c :: r => htL (htCat x c) r
def headText (l : List S102) : ByteArray := htL (⟨#[]⟩ : ByteArray) l
theorem sz2a : (⟨#[58, 32]⟩ : ByteArray).size = 2 := rfl
theorem sz2b : (⟨#[13, 10]⟩ : ByteArray).size = 2 := rfl
theorem htCat_size (x : ByteArray) (h : S102) : (htCat x h).size = x.size + (h.f0.size + 2 + h.f1.size + 2) := by
  unfold htCat; simp only [ByteArray.size_append, sz2a, sz2b]
theorem htL_size : ∀ (l : List S102) (x : ByteArray), (∀ y ∈ l, y.f0.size ≤ 1048576 ∧ y.f1.size ≤ 1048576) → (htL x l).size ≤ x.size + l.length * 2097156
  | [], x, _ => by simp [htL]
  | c :: r, x, h => by
    have h1 := htL_size r (htCat x c) (fun y hy => h y (by simp [hy]))
    have h2 := h c (by simp)
    rw [htCat_size] at h1
    simp only [htL, List.length_cons]
    omega
theorem headText_size (l : List S102) (hl : l.length ≤ 1048576) (h : ∀ y ∈ l, y.f0.size ≤ 1048576 ∧ y.f1.size ≤ 1048576) : (headText l).size ≤ 2199027449856 := by
  have := htL_size l (⟨#[]⟩ : ByteArray) h
  rw [show (⟨#[]⟩ : ByteArray).size = 0 from rfl] at this
  unfold headText
  omega
theorem impl_headText_ev (l : List S102) (hl : l.length ≤ 1048576) (hs : ∀ x ∈ l, x.f0.size ≤ 1048576 ∧ x.f1.size ≤ 1048576) : Ev (fun k => impl_headText.f k l) (headText l) := by
  refine list_loop_st l (by omega) (fun i x k => impl_headText.l0 k x l (l.length : Int) (i : Int)) (fun _ x r => htL x r) (fun i x r => x.size ≤ i * 2097156 ∧ ∀ y ∈ r, y.f0.size ≤ 1048576 ∧ y.f1.size ≤ 1048576) ?_ ?_ 0 _ ⟨by rw [show (⟨#[]⟩ : ByteArray).size = 0 from rfl]; omega, hs⟩
  · intro i x _ hi
    apply ev_succ; simp only [impl_headText.l0, if_neg (show ¬ (i : Int) < l.length by omega)]; exact Ev.now _
  · intro i x c r ⟨hx, hr⟩ h hb hi hw1 ih
    have hbb : rd_T102 l (i : Int) = c := hb _
    obtain ⟨hc0, hc1⟩ := hr c (by simp)
    replace ih := ih (htCat x c) ⟨by rw [htCat_size]; omega, fun y hy => hr y (by simp [hy])⟩
    apply ev_succ
    simp only [impl_headText.l0, if_pos (show (i : Int) < l.length by omega), if_pos (show (0 : Int) ≤ i by omega), hbb, hw1, ByteArray.size_append, sz2a, sz2b, if_pos (show c.f0.size + 2 ≤ 9223372036854775807 by omega), if_pos (show c.f0.size + 2 + c.f1.size ≤ 9223372036854775807 by omega), if_pos (show c.f0.size + 2 + c.f1.size + 2 ≤ 9223372036854775807 by omega), if_pos (show x.size + (c.f0.size + 2 + c.f1.size + 2) ≤ 9223372036854775807 by omega)]
    exact ih
theorem htCat_assoc (x : ByteArray) (h : S102) : (((x ++ h.f0) ++ (⟨#[58, 32]⟩ : ByteArray)) ++ h.f1) ++ (⟨#[13, 10]⟩ : ByteArray) = htCat x h := by
  unfold htCat; simp only [ByteArray.append_assoc]
theorem spec_l3HeadsText_ev (l : List S102) (hl : l.length ≤ 1048576) (hs : ∀ x ∈ l, x.f0.size ≤ 1048576 ∧ x.f1.size ≤ 1048576) : Ev (fun k => spec_l3HeadsText.f k l) (headText l) := by
  refine list_loop_st l (by omega) (fun i x k => spec_l3HeadsText.l0 k l x (i : Int)) (fun _ x r => htL x r) (fun i x r => x.size ≤ i * 2097156 ∧ ∀ y ∈ r, y.f0.size ≤ 1048576 ∧ y.f1.size ≤ 1048576) ?_ ?_ 0 _ ⟨by rw [show (⟨#[]⟩ : ByteArray).size = 0 from rfl]; omega, hs⟩
  · intro i x _ hi
    apply ev_succ; simp only [spec_l3HeadsText.l0, if_neg (show ¬ (i : Int) < l.length by omega)]; exact Ev.now _
  · intro i x c r ⟨hx, hr⟩ h hb hi hw1 ih
    have hbb : rd_T102 l (i : Int) = c := hb _
    obtain ⟨hc0, hc1⟩ := hr c (by simp)
    replace ih := ih (htCat x c) ⟨by rw [htCat_size]; omega, fun y hy => hr y (by simp [hy])⟩
    apply ev_succ
    simp only [spec_l3HeadsText.l0, if_pos (show (i : Int) < l.length by omega), if_pos (show (0 : Int) ≤ i by omega), hbb, hw1, htCat_assoc, ByteArray.size_append, sz2a, sz2b, if_pos (show x.size + c.f0.size ≤ 9223372036854775807 by omega), if_pos (show x.size + c.f0.size + 2 ≤ 9223372036854775807 by omega), if_pos (show x.size + c.f0.size + 2 + c.f1.size ≤ 9223372036854775807 by omega), if_pos (show x.size + c.f0.size + 2 + c.f1.size + 2 ≤ 9223372036854775807 by omega)]
    exact ih

/-- the digits of a number, as bytes -/
def numD (u : Nat) : List Int := (Lib.decDigits u).map fun b => (b.toNat : Int)
theorem numD_step (u : Nat) (h : 9 < u) : numD u = numD (u / 10) ++ [48 + ((u % 10 : Nat) : Int)] := by
  unfold numD
  rw [Lib.decDigits, dif_neg (by omega), List.map_append]
  congr 1
  simp only [List.map_cons, List.map_nil, List.cons.injEq, and_true]
  rw [show (UInt8.ofNat (48 + u % 10)).toNat = 48 + u % 10 from by simp; omega]
  omega
theorem numD_low (u : Nat) (h : u ≤ 9) : numD u = [48 + (u : Int)] := by
  unfold numD
  rw [Lib.decDigits, dif_pos (by omega)]
  simp only [List.map_cons, List.map_nil, List.cons.injEq, and_true]
  rw [show (UInt8.ofNat (48 + u)).toNat = 48 + u from by simp; omega]
  omega
theorem numD_range (u : Nat) : ∀ x ∈ numD u, 0 ≤ x ∧ x < 256 := by
  intro x hx
  obtain ⟨b, _, rfl⟩ := List.mem_map.1 hx
  have := b.toNat_lt
  omega
theorem strNum (u : Nat) : (⟨(Lib.decDigits u).toArray⟩ : ByteArray) = strOfNums (numD u) := by
  apply bytesOf_inj
  rw [bytesOf_strOfNums _ (numD_range u), bytesOf_mk]; rfl
theorem numD_len : ∀ (k u : Nat), u < 10 ^ (k + 1) → (numD u).length ≤ k + 1
  | 0, u, h => by rw [numD_low u (by simpa using Nat.le_of_lt_succ h)]; simp
  | k + 1, u, h => by
    rcases Nat.lt_or_ge 9 u with h9 | h9
    · rw [numD_step u h9, List.length_append]
      have := numD_len k (u / 10) (by rw [Nat.pow_succ] at h; omega)
      simp; omega
    · rw [numD_low u h9]; simp
/-- one digit in front -/
theorem digit_byte (u : Nat) (hu : u ≤ 9223372036854775807) : wrap64 (48 + Int.tmod (u : Int) 10) % 256 = 48 + ((u % 10 : Nat) : Int) := by
  have e : Int.tmod (u : Int) 10 = ((u % 10 : Nat) : Int) := by rw [Int.tmod_eq_emod_of_nonneg (by omega)]; omega
  rw [e, wrap_id (by omega) (by omega)]
  omega
theorem tdiv_ten (u : Nat) (hu : u ≤ 9223372036854775807) : wrap64 (Int.tdiv (u : Int) 10) = ((u / 10 : Nat) : Int) := by
  rw [Int.tdiv_eq_ediv_of_nonneg (by omega), wrap_id (by omega) (by omega)]
  omega

theorem spec_NumText_l0 : ∀ (n u : Nat) (x : ByteArray), u < 10 ^ (n + 1) → u ≤ 9223372036854775807 → x.size ≤ 1000 - n → n ≤ 20 → bytesOf x = (numD u).drop ((numD u).length - 1) ++ (bytesOf x).drop 1 → Ev (fun k => spec_NumText.l0 k (u : Int) x) (strOfNums (numD u ++ (bytesOf x).drop 1))
  | 0, u, x, h, hu, hx, hn, hb => by
    have h9 : u ≤ 9 := by omega
    apply ev_succ
    simp only [spec_NumText.l0, if_neg (show ¬ (u : Int) > 9 by omega)]
    rw [numD_low u h9] at hb ⊢
    simp only [List.length_cons, List.length_nil, List.drop_zero, Nat.zero_add, Nat.sub_self] at hb
    rw [← hb, strOfNums_bytesOf]
    exact Ev.now _
  | n + 1, u, x, h, hu, hx, hn, hb => by
    apply ev_succ
    rcases Nat.lt_or_ge 9 u with h9 | h9
    · have hy : bytesOf (strOfNums [48 + ((u / 10 % 10 : Nat) : Int)]) = [48 + ((u / 10 % 10 : Nat) : Int)] := bytesOf_strOfNums _ (by intro z hz; simp at hz; omega)
      have hs1 : (strOfNums [48 + ((u / 10 % 10 : Nat) : Int)]).size = 1 := by rw [size_len, hy]; rfl
      simp only [spec_NumText.l0, if_pos (show (u : Int) > 9 by omega), tdiv_ten u hu, digit_byte (u / 10) (by omega), Option.bind_some, hs1, if_pos (show 1 + x.size ≤ 9223372036854775807 by omega)]
      have e : bytesOf (strOfNums [48 + ((u / 10 % 10 : Nat) : Int)] ++ x) = (48 + ((u / 10 % 10 : Nat) : Int)) :: bytesOf x := by rw [bytesOf_append, hy]; rfl
      have ih := spec_NumText_l0 n (u / 10) (strOfNums [48 + ((u / 10 % 10 : Nat) : Int)] ++ x) (by rw [Nat.pow_succ] at h; omega) (by omega) (by rw [ByteArray.size_append, hs1]; omega) (by omega) (by
        rw [e]
        simp only [List.drop_succ_cons, List.drop_zero]
        rcases Nat.lt_or_ge 9 (u / 10) with h10 | h10
        · rw [numD_step (u / 10) h10]
          simp
        · rw [numD_low (u / 10) h10, Nat.mod_eq_of_lt (by omega)]
          simp)
      rw [e] at ih
      simp only [List.drop_succ_cons, List.drop_zero] at ih
      rw [numD_step u h9] at hb ⊢
      simp only [List.length_append, List.length_cons, List.length_nil, Nat.zero_add, Nat.add_sub_cancel, List.drop_left] at hb
      rw [List.append_assoc, ← hb]
      exact ih
    · simp only [spec_NumText.l0, if_neg (show ¬ (u : Int) > 9 by omega)]
      rw [numD_low u h9] at hb ⊢
      simp only [List.length_cons, List.length_nil, List.drop_zero, Nat.zero_add, Nat.sub_self] at hb
      rw [← hb, strOfNums_bytesOf]
      exact Ev.now _
theorem spec_NumText_j0 (u : Nat) (hu : u ≤ 9223372036854775807) : Ev (fun k => spec_NumText.j0 k (u : Int)) (strOfNums (numD u)) := by
  apply ev_succ
  simp only [spec_NumText.j0, digit_byte u hu]
  have hy : bytesOf (strOfNums [48 + ((u % 10 : Nat) : Int)]) = [48 + ((u % 10 : Nat) : Int)] := bytesOf_strOfNums _ (by intro z hz; simp at hz; omega)
  have hs1 : (strOfNums [48 + ((u % 10 : Nat) : Int)]).size = 1 := by rw [size_len, hy]; rfl
  have := spec_NumText_l0 18 u (strOfNums [48 + ((u % 10 : Nat) : Int)]) (by omega) hu (by omega) (by omega) (by
    rw [hy]
    rcases Nat.lt_or_ge 9 u with h9 | h9
    · rw [numD_step u h9]; simp
    · rw [numD_low u h9, Nat.mod_eq_of_lt (by omega)]; simp)
  rw [hy] at this
  simpa using this
theorem spec_NumText_ev (n : Int) (hn : n ≤ 9223372036854775807) : Ev (fun k => spec_NumText.f k n) (strOfNums (numD n.toNat)) := by
  unfold spec_NumText.f
  refine ev_ite (fun h => ?_) (fun h => ?_)
  · rw [show n.toNat = 0 from by omega]
    exact spec_NumText_j0 0 (by omega)
  · have := spec_NumText_j0 n.toNat (by omega)
    rwa [Int.toNat_of_nonneg (by omega)] at this
theorem impl_NumText_eq (n : Int) (hn : n ≤ 9223372036854775807) : impl_NumText.f n = some (strOfNums (numD n.toNat)) := by
  have e : mx n 0 = ((n.toNat : Nat) : Int) := by unfold mx; split <;> omega
  unfold impl_NumText.f
  rw [e]
  unfold strconv_Itoa.f
  rw [if_pos (by omega), Option.bind_some]
  unfold Lib.itoa
  rw [if_neg (by omega), Int.toNat_natCast, strNum]

theorem sz2c : (⟨#[13, 10]⟩ : ByteArray).size = 2 := rfl
def lenText (b : ByteArray) : ByteArray := ((⟨#[99, 111, 110, 116, 101, 110, 116, 45, 108, 101, 110, 103, 116, 104, 58, 32]⟩ : ByteArray) ++ strOfNums (numD b.size)) ++ (⟨#[13, 10]⟩ : ByteArray)
theorem sz16 : (⟨#[99, 111, 110, 116, 101, 110, 116, 45, 108, 101, 110, 103, 116, 104, 58, 32]⟩ : ByteArray).size = 16 := rfl
theorem num_size (u : Nat) (h : u ≤ 1048576) : (strOfNums (numD u)).size ≤ 7 := by
  rw [size_len, bytesOf_strOfNums _ (numD_range u)]
  exact numD_len 6 u (by omega)
theorem impl_lengthText_eq (b : ByteArray) (hb : b.size ≤ 1048576) : impl_lengthText.f b = some (lenText b) := by
  have hn := num_size b.size hb
  have e := impl_NumText_eq (b.size : Int) (by omega)
  rw [Int.toNat_natCast] at e
  unfold impl_lengthText.f
  rw [e, Option.bind_some, if_pos (by omega), if_pos (by simp only [ByteArray.size_append, sz16]; omega)]
  rfl
theorem lenText_size (b : ByteArray) (hb : b.size ≤ 1048576) : (lenText b).size ≤ 25 := by
  have hn := num_size b.size hb
  unfold lenText
  simp only [ByteArray.size_append, sz16, sz2c]; omega

def reqLine (m p : ByteArray) (l : List S102) (more : ByteArray) : ByteArray := ((((((m ++ (⟨#[32]⟩ : ByteArray)) ++ p) ++ (⟨#[32, 72, 84, 84, 80, 47, 49, 46, 49]⟩ : ByteArray)) ++ (⟨#[13, 10]⟩ : ByteArray)) ++ headText l) ++ more) ++ (⟨#[13, 10]⟩ : ByteArray)
noncomputable def putV (m p : ByteArray) (l : List S102) (b more : ByteArray) (body : List Int) : List Int := if reqOk m p l b = true then (if ((reqLine m p l more).size : Int) > 400 then [] else bytesOf (reqLine m p l more) ++ body) else []
theorem sz1a : (⟨#[32]⟩ : ByteArray).size = 1 := rfl
theorem sz9a : (⟨#[32, 72, 84, 84, 80, 47, 49, 46, 49]⟩ : ByteArray).size = 9 := rfl
theorem spec_l3Put_ev (m p : ByteArray) (l : List S102) (b more body : ByteArray) (hm : m.size ≤ 1048576) (hp : p.size ≤ 1048576) (hl : l.length ≤ 1048576) (hs : ∀ x ∈ l, x.f0.size ≤ 1048576 ∧ x.f1.size ≤ 1048576) (hmo : more.size ≤ 1048576) (hb : body.size ≤ 1048576) : Ev (fun k => spec_l3Put.f k m p l b more body) (putV m p l b more (bytesOf body)) := by
  have hh := headText_size l hl hs
  unfold spec_l3Put.f putV
  refine ev_ite (fun _ => ?_) (fun q => absurd (by omega) q)
  refine ev_ite (fun _ => ?_) (fun q => absurd (by simp only [ByteArray.size_append, sz1a]; omega) q)
  refine ev_ite (fun _ => ?_) (fun q => absurd (by simp only [ByteArray.size_append, sz1a]; omega) q)
  refine ev_ite (fun _ => ?_) (fun q => absurd (by simp only [ByteArray.size_append, sz1a, sz9a]; omega) q)
  refine Ev.bind (spec_l3HeadsText_ev l hl hs) ?_
  refine ev_ite (fun _ => ?_) (fun q => absurd (by simp only [ByteArray.size_append, sz1a, sz9a, sz2c]; omega) q)
  refine ev_ite (fun _ => ?_) (fun q => absurd (by simp only [ByteArray.size_append, sz1a, sz9a, sz2c]; omega) q)
  refine ev_ite (fun _ => ?_) (fun q => absurd (by simp only [ByteArray.size_append, sz1a, sz9a, sz2c]; omega) q)
  refine Ev.bind (spec_ReqOk_ev m p l b hm hp (by omega) hs) (ev_iteB (fun q => ?_) (fun q => ?_))
  · rw [if_pos q]
    refine ev_ite (fun q1 => ?_) (fun q1 => ?_)
    · rw [if_pos (show ((reqLine m p l more).size : Int) > 400 from q1)]; exact Ev.now _
    · rw [if_neg (show ¬ ((reqLine m p l more).size : Int) > 400 from q1)]
      refine ev_ite (fun _ => ?_) (fun q => absurd (by simp only [ByteArray.size_append, sz1a, sz9a, sz2c]; omega) q)
      refine ev_ite (fun _ => ?_) (fun q => absurd (by simp only [ByteArray.size_append, sz1a, sz9a, sz2c]; omega) q)
      rw [bytesOf_append]
      exact Ev.now _
  · rw [if_neg (by rw [q]; simp)]; exact Ev.now _
theorem impl_putReq_ev (m p : ByteArray) (l : List S102) (b more : ByteArray) (body : List Int) (hm : m.size ≤ 1048576) (hp : p.size ≤ 1048576) (hl : l.length ≤ 1048576) (hs : ∀ x ∈ l, x.f0.size ≤ 1048576 ∧ x.f1.size ≤ 1048576) (hmo : more.size ≤ 1048576) (hb : body.length ≤ 1099511627776) : Ev (fun k => impl_putReq.f k m p l b more body) (putV m p l b more body) := by
  have hh := headText_size l hl hs
  unfold impl_putReq.f putV
  refine ev_ite (fun _ => ?_) (fun q => absurd (by omega) q)
  refine ev_ite (fun _ => ?_) (fun q => absurd (by simp only [ByteArray.size_append, sz1a]; omega) q)
  refine ev_ite (fun _ => ?_) (fun q => absurd (by simp only [ByteArray.size_append, sz1a]; omega) q)
  refine ev_ite (fun _ => ?_) (fun q => absurd (by simp only [ByteArray.size_append, sz1a, sz9a]; omega) q)
  refine Ev.bind (impl_headText_ev l hl hs) ?_
  refine ev_ite (fun _ => ?_) (fun q => absurd (by simp only [ByteArray.size_append, sz1a, sz9a, sz2c]; omega) q)
  refine ev_ite (fun _ => ?_) (fun q => absurd (by simp only [ByteArray.size_append, sz1a, sz9a, sz2c]; omega) q)
  refine ev_ite (fun _ => ?_) (fun q => absurd (by simp only [ByteArray.size_append, sz1a, sz9a, sz2c]; omega) q)
  refine Ev.bind (impl_ReqOk_ev m p l b hm hp (by omega) hs) (ev_iteB (fun q => ?_) (fun q => ?_))
  · rw [if_pos q]
    refine ev_ite (fun q1 => ?_) (fun q1 => ?_)
    · rw [if_pos (show ((reqLine m p l more).size : Int) > 400 from q1)]; exact Ev.now _
    · rw [if_neg (show ¬ ((reqLine m p l more).size : Int) > 400 from q1)]
      refine ev_ite (fun _ => ?_) (fun q => absurd (by simp only [ByteArray.size_append, sz1a, sz9a, sz2c]; omega) q)
      simp only [Option.bind_some]
      refine ev_ite (fun _ => Ev.now _) (fun q => absurd (by rw [← size_len]; simp only [ByteArray.size_append, sz1a, sz9a, sz2c]; omega) q)
  · rw [if_neg (by rw [q]; simp)]; exact Ev.now _
noncomputable def putReqV (m p : ByteArray) (l : List S102) (b : ByteArray) : List Int := putV m p l b (if bytesOf b = [] then (⟨#[]⟩ : ByteArray) else lenText b) (bytesOf b)
theorem spec_PutReq_ev (m p : ByteArray) (l : List S102) (b : ByteArray) (hm : m.size ≤ 1048576) (hp : p.size ≤ 1048576) (hl : l.length ≤ 1048576) (hs : ∀ x ∈ l, x.f0.size ≤ 1048576 ∧ x.f1.size ≤ 1048576) (hb : b.size ≤ 1048576) : Ev (fun k => spec_PutReq.f k m p l b) (putReqV m p l b) := by
  unfold spec_PutReq.f putReqV
  refine ev_ite (fun q => ?_) (fun q => ?_)
  · have q' : bytesOf b = [] := (lit_iff b []).1 q
    rw [if_pos q', q']
    exact Ev.bind (spec_l3Put_ev m p l b (⟨#[]⟩ : ByteArray) (⟨#[]⟩ : ByteArray) hm hp hl hs (by decide) (by decide)) (Ev.now _)
  · have q' : ¬ bytesOf b = [] := fun h => q ((lit_iff b []).2 h)
    have hn := num_size b.size hb
    rw [if_neg q']
    have e := spec_NumText_ev (b.size : Int) (by omega)
    rw [Int.toNat_natCast] at e
    refine Ev.bind e ?_
    refine ev_ite (fun _ => ?_) (fun q => absurd (by omega) q)
    refine ev_ite (fun _ => ?_) (fun q => absurd (by simp only [ByteArray.size_append, sz16]; omega) q)
    exact Ev.bind (spec_l3Put_ev m p l b (lenText b) b hm hp hl hs (by unfold lenText; simp only [ByteArray.size_append, sz16, sz2c]; omega) hb) (Ev.now _)
theorem impl_PutReq_ev (m p : ByteArray) (l : List S102) (b : ByteArray) (hm : m.size ≤ 1048576) (hp : p.size ≤ 1048576) (hl : l.length ≤ 1048576) (hs : ∀ x ∈ l, x.f0.size ≤ 1048576 ∧ x.f1.size ≤ 1048576) (hb : b.size ≤ 1048576) : Ev (fun k => impl_PutReq.f k m p l b) (putReqV m p l b) := by
  have hbl : (bytesOf b).length ≤ 1099511627776 := by rw [← size_len]; omega
  unfold impl_PutReq.f putReqV
  refine ev_ite (fun q => ?_) (fun q => ?_)
  · have q' : bytesOf b = [] := (lit_iff b []).1 q
    rw [if_pos q']
    refine ev_ite (fun _ => ?_) (fun q => absurd (by omega) q)
    exact Ev.bind (impl_putReq_ev m p l b (⟨#[]⟩ : ByteArray) (bytesOf b) hm hp hl hs (by decide) hbl) (Ev.now _)
  · have q' : ¬ bytesOf b = [] := fun h => q ((lit_iff b []).2 h)
    have hn := num_size b.size hb
    rw [if_neg q']
    have e2 := impl_lengthText_eq b hb
    simp only [e2, Option.bind_some]
    refine ev_ite (fun _ => ?_) (fun q => absurd (by omega) q)
    exact Ev.bind (impl_putReq_ev m p l b (lenText b) (bytesOf b) hm hp hl hs (by unfold lenText; simp only [ByteArray.size_append, sz16, sz2c]; omega) hbl) (Ev.now _)
theorem putV_len (m p : ByteArray) (l : List S102) (b more : ByteArray) (body : List Int) : (putV m p l b more body).length ≤ 400 + body.length := by
  unfold putV
  split
  · split
    · simp
    · rename_i h
      rw [List.length_append, ← size_len]; omega
  · simp

theorem toH_sizes {l : List S122} {n : Int} (h : ∀ x ∈ l, (x.f0.size : Int) ≤ n ∧ (x.f1.size : Int) ≤ n) (hn : n ≤ 1048576) : ∀ x ∈ l.map toH, x.f0.size ≤ 1048576 ∧ x.f1.size ≤ 1048576 := by
  intro x hx
  obtain ⟨y, hy, rfl⟩ := List.mem_map.1 hx
  obtain ⟨h1, h2⟩ := h y hy
  exact ⟨by show y.f0.size ≤ _; omega, by show y.f1.size ≤ _; omega⟩

theorem eqByteS_ev (a b : List Int) (ha : a.length ≤ 9223372036854775806) : Ev (fun k => laws_eqByteS.f k a b) (eqb a b) := by
  unfold laws_eqByteS.f
  refine ev_ite (fun q => ?_) (fun q => ?_)
  · have q' : a.length = b.length := by omega
    refine eq_loop a b (· = ·) q' ha (fun i k => laws_eqByteS.l0 k a b (i : Int)) _ ((eqb_iff a b).trans (list_eq_iff a b q')) ?_ ?_
    · intro i hi
      apply ev_succ; simp only [laws_eqByteS.l0, if_neg (show ¬ (i : Int) < a.length by omega)]; exact Ev.now _
    · intro i x y v hi hx hy hw1 ih
      have hxx : rd a (i : Int) = x := hx _
      have hyy : rd b (i : Int) = y := hy _
      refine ⟨fun hR => ?_, fun hR => ?_⟩
      · apply ev_succ
        simp only [laws_eqByteS.l0, if_pos (show (i : Int) < a.length by omega), if_pos (show (0 : Int) ≤ i by omega), if_pos (show (i : Int) < b.length by omega), hxx, hyy, hw1, if_pos hR]; exact ih
      · apply ev_succ
        simp only [laws_eqByteS.l0, if_pos (show (i : Int) < a.length by omega), if_pos (show (0 : Int) ≤ i by omega), if_pos (show (i : Int) < b.length by omega), hxx, hyy, hw1, if_neg hR]; exact Ev.now _
  · rw [eqb_ne (fun h => q (by rw [h]))]; exact Ev.now _

theorem markByteS_l0 : ∀ (n : Nat) (x : List Int) (a : Int) (i : Nat), x.length - i = n → i ≤ x.length → x.length ≤ 8796093022208 → 0 ≤ a → a + n ≤ 1125899906842624 → ∃ y, Ev (fun k => laws_markByteS.l0 k x a (i : Int)) (a + n, y) ∧ y.length = x.length ∧ (∀ j, j < i → y[j]? = x[j]?) ∧ ∀ j, i ≤ j → j < x.length → y[j]? = some ((a + (j - i : Nat)) % 256)
  | 0, x, a, i, hn, hi, hl, h0, h1 => by
    refine ⟨x, ?_, rfl, fun _ _ => rfl, fun j h2 h3 => by omega⟩
    apply ev_succ
    simp only [laws_markByteS.l0, if_neg (show ¬ (i : Int) < x.length by omega)]
    rw [show a + ((0 : Nat) : Int) = a by omega]; exact Ev.now _
  | n + 1, x, a, i, hn, hi, hl, h0, h1 => by
    obtain ⟨y, h2, h3, h4, h5⟩ := markByteS_l0 n (x.set i (a % 256)) (a + 1) (i + 1) (by simp; omega) (by simp; omega) (by simp; omega) (by omega) (by omega)
    refine ⟨y, ?_, by rw [h3]; simp, ?_, ?_⟩
    · apply ev_succ
      simp only [laws_markByteS.l0, if_pos (show (i : Int) < x.length by omega), if_pos (show (0 : Int) ≤ i by omega), Int.toNat_natCast, wrap_id (x := a + 1) (by omega) (by omega), show wrap64 ((i : Int) + 1) = ((i + 1 : Nat) : Int) from by rw [wrap_id (by omega) (by omega)]; omega]
      rw [show a + ((n + 1 : Nat) : Int) = a + 1 + n by omega]; exact h2
    · intro j hj
      rw [h4 j (by omega), List.getElem?_set, if_neg (by omega)]
    · intro j hj hx
      rcases Nat.lt_or_ge i j with q | q
      · rw [h5 j (by omega) (by simp; omega)]
        congr 2; omega
      · have : j = i := by omega
        subst this
        rw [h4 j (by omega), List.getElem?_set, if_pos rfl, if_pos (by omega)]
        congr 2; omega
def Marked (a : Int) (y : List Int) : Prop := ∀ j, j < y.length → y[j]? = some ((a + (j : Int)) % 256)
theorem markByteS_ev (x : List Int) (a : Int) (hl : x.length ≤ 8796093022208) (h0 : 0 ≤ a) (h1 : a ≤ 8796093022208) : ∃ y, Ev (fun k => laws_markByteS.f k x a) (a + x.length, y) ∧ y.length = x.length ∧ Marked a y := by
  obtain ⟨y, h2, h3, _, h5⟩ := markByteS_l0 x.length x a 0 rfl (by omega) hl h0 (by omega)
  refine ⟨y, h2, h3, fun j hj => ?_⟩
  rw [h5 j (by omega) (by omega)]
  rfl
theorem heldByteS_l0 : ∀ (n : Nat) (y : List Int) (a : Int) (i : Nat), y.length - i = n → i ≤ y.length → y.length ≤ 8796093022208 → 0 ≤ a → a ≤ 8796093022208 → Marked a y → Ev (fun k => laws_heldByteS.l0 k y (a + i) (i : Int)) (a + y.length)
  | 0, y, a, i, hn, hi, hl, h0, h1, hm => by
    apply ev_succ
    simp only [laws_heldByteS.l0, if_neg (show ¬ (i : Int) < y.length by omega)]
    rw [show a + (y.length : Int) = a + i by omega]; exact Ev.now _
  | n + 1, y, a, i, hn, hi, hl, h0, h1, hm => by
    have ih := heldByteS_l0 n y a (i + 1) (by omega) (by omega) hl h0 h1 hm
    have hr : rd y (i : Int) = (a + i) % 256 := by
      unfold rd
      rw [Int.toNat_natCast, List.getD_eq_getElem?_getD, hm i (by omega)]; rfl
    apply ev_succ
    simp only [laws_heldByteS.l0, if_pos (show (i : Int) < y.length by omega), if_pos (show (0 : Int) ≤ i by omega), hr, if_true, show wrap64 ((i : Int) + 1) = ((i + 1 : Nat) : Int) from by rw [wrap_id (by omega) (by omega)]; omega, show wrap64 (a + (i : Int) + 1) = a + ((i + 1 : Nat) : Int) from by rw [wrap_id (by omega) (by omega)]; omega]
    exact ih
theorem heldByteS_ev (y : List Int) (a : Int) (hl : y.length ≤ 8796093022208) (h0 : 0 ≤ a) (h1 : a ≤ 8796093022208) (hm : Marked a y) : Ev (fun k => laws_heldByteS.f k y a) (a + y.length) := by
  have := heldByteS_l0 y.length y a 0 rfl (by omega) hl h0 h1 hm
  simpa [laws_heldByteS.f] using this

theorem markText_l0 : ∀ (u : Nat) (x : ByteArray), u ≤ 1099511627776 → x.size + u ≤ 2199023255552 → ∃ t, Ev (fun k => laws_markText.l0 k (u : Int) x) t := by
  intro u
  induction u using Nat.strongRecOn with
  | _ u ih =>
    intro x hu hx
    rcases Nat.eq_zero_or_pos u with h | h
    · subst h
      refine ⟨(⟨#[109]⟩ : ByteArray) ++ x, ?_⟩
      apply ev_succ
      simp only [laws_markText.l0, if_neg (show ¬ ((0 : Nat) : Int) > 0 by omega), if_pos (show 1 + x.size ≤ 9223372036854775807 by omega)]
      exact Ev.now _
    · have hs : (strOfNums [48 + ((u % 10 : Nat) : Int)]).size = 1 := by
        rw [size_len, bytesOf_strOfNums _ (by intro y hy; rw [List.mem_singleton] at hy; omega)]; rfl
      obtain ⟨t, ht⟩ := ih (u / 10) (by omega) (strOfNums [48 + ((u % 10 : Nat) : Int)] ++ x) (by omega) (by rw [ByteArray.size_append, hs]; omega)
      refine ⟨t, ?_⟩
      apply ev_succ
      simp only [laws_markText.l0, if_pos (show (u : Int) > 0 by omega), Option.bind_some, digit_byte u (by omega), tdiv_ten u (by omega), hs, if_pos (show 1 + x.size ≤ 9223372036854775807 by omega)]
      exact ht
theorem markText_ev (a : Int) (h1 : a ≤ 1099511627776) : ∃ t, Ev (fun k => laws_markText.f k a) t := by
  by_cases h : a ≤ 0
  · refine ⟨(⟨#[109, 48]⟩ : ByteArray), ?_⟩
    simp only [laws_markText.f, if_pos h]; exact Ev.now _
  · obtain ⟨t, ht⟩ := markText_l0 a.toNat (⟨#[]⟩ : ByteArray) (by omega) (by rw [show (⟨#[]⟩ : ByteArray).size = 0 from rfl]; omega)
    refine ⟨t, ?_⟩
    rw [Int.toNat_of_nonneg (by omega)] at ht
    simp only [laws_markText.f, if_neg h]; exact ht
theorem markHeadS_l0 : ∀ (n : Nat) (x : List S102) (a : Int) (i : Nat), x.length - i = n → i ≤ x.length → x.length ≤ 1048576 → 0 ≤ a → a + 2 * n ≤ 1073741824 → ∃ y, Ev (fun k => laws_markHeadS.l0 k x a (i : Int)) (a + 2 * n, y)
  | 0, x, a, i, hn, hi, hl, h0, h1 => by
    refine ⟨x, ?_⟩
    apply ev_succ
    simp only [laws_markHeadS.l0, if_neg (show ¬ (i : Int) < x.length by omega)]
    rw [show a + 2 * ((0 : Nat) : Int) = a by omega]; exact Ev.now _
  | n + 1, x, a, i, hn, hi, hl, h0, h1 => by
    obtain ⟨t1, e1⟩ := markText_ev a (by omega)
    obtain ⟨t2, e2⟩ := markText_ev (a + 1) (by omega)
    obtain ⟨y, h2⟩ := markHeadS_l0 n ((x.set i ⟨t1, (rd_T102 x i).f1⟩).set i ⟨(rd_T102 (x.set i ⟨t1, (rd_T102 x i).f1⟩) i).f0, t2⟩) (a + 2) (i + 1) (by simp; omega) (by simp; omega) (by simp; omega) (by omega) (by omega)
    refine ⟨y, ?_⟩
    apply ev_succ
    simp only [laws_markHeadS.l0, if_pos (show (i : Int) < x.length by omega), if_pos (show (0 : Int) ≤ i by omega), Int.toNat_natCast, wrap_id (x := a + 1) (by omega) (by omega), wrap_id (x := a + 1 + 1) (by omega) (by omega), show wrap64 ((i : Int) + 1) = ((i + 1 : Nat) : Int) from by rw [wrap_id (by omega) (by omega)]; omega, Option.bind_some]
    refine Ev.bind e1 (Ev.bind e2 ?_)
    rw [show a + 2 * ((n + 1 : Nat) : Int) = a + 2 + 2 * n by omega, show a + 1 + 1 = a + 2 by omega]; exact h2
theorem markHeadS_ev (x : List S102) (a : Int) (hl : x.length ≤ 1048576) (h0 : 0 ≤ a) (h1 : a ≤ 1048576) : ∃ y, Ev (fun k => laws_markHeadS.f k x a) (a + 2 * x.length, y) :=
  markHeadS_l0 x.length x a 0 rfl (by omega) hl h0 (by omega)

theorem FnExactPutReq : laws_FnExactPutReq.Pure := by
  intro m p l b hm hp hl hb
  apply Ev.rounds
  unfold laws_FnExactPutReq.f
  refine Ev.bind (szReq_ev m p l b 1048576 hm hp hl hb (by omega) (by omega)) (ev_ite (fun _ => Ev.now _) (fun q0 => ?_))
  obtain ⟨a0, a1, am, ap, ab, a3⟩ := szReq_le q0
  have c0 := toReq_ev m p l b (by omega)
  have hl' : (l.map toH).length ≤ 1048576 := by simp; omega
  have hz := toH_sizes a3 (by omega)
  have hl9 : (l.map toH).length ≤ 9223372036854775806 := by omega
  have hm' : m.size ≤ 1048576 := by omega
  have hp' : p.size ≤ 1048576 := by omega
  have hb' : b.size ≤ 1048576 := by omega
  have es := spec_PutReq_ev m p (l.map toH) b hm' hp' hl' hz hb'
  have ei := impl_PutReq_ev m p (l.map toH) b hm' hp' hl' hz hb'
  have hv : (putReqV m p (l.map toH) b).length ≤ 8796093022208 := by
    have := putV_len m p (l.map toH) b (if bytesOf b = [] then (⟨#[]⟩ : ByteArray) else lenText b) (bytesOf b)
    rw [← size_len] at this
    unfold putReqV; omega
  generalize putReqV m p (l.map toH) b = V at es ei hv
  have ee := eqByteS_ev V V (by omega)
  rw [eqb_self] at ee
  refine Ev.bind c0 (Ev.bind es (Ev.bind c0 (Ev.bind ei (Ev.bind ee (ev_ite (fun _ => ?_) (fun q => absurd rfl q))))))
  refine Ev.bind c0 (Ev.bind (eqReq_ev _ _ _ _ _ _ _ _ hl9) (ev_ite (fun _ => ?_) (fun q => absurd (decb_true ⟨rfl, rfl, rfl, rfl⟩) q)))
  obtain ⟨y, hy⟩ := markHeadS_ev (l.map toH) 1 hl' (by omega) (by omega)
  have hmr : Ev (fun k => laws_markReq.f k m p (l.map toH) b 1) (1 + 2 * ((l.map toH).length : Int), y) := by
    unfold laws_markReq.f
    exact Ev.bind hy (Ev.now _)
  refine Ev.bind hmr (ev_ite (fun q => absurd q (by show ¬ (1 + 2 * ((l.map toH).length : Int)) < 0; omega)) (fun _ => ?_))
  refine Ev.bind ee ?_
  apply ev_succ
  simp only [laws_FnExactPutReq.j0, Bool.not_true, Bool.false_eq_true, if_false]
  obtain ⟨z, hz1, hz2, hz3⟩ := markByteS_ev V 1 hv (by omega) (by omega)
  have hh := heldByteS_ev z 1 (by omega) (by omega) (by omega) hz3
  rw [hz2] at hh
  refine Ev.bind hz1 (Ev.bind hh (ev_ite (fun q => absurd q (by omega)) (fun _ => ev_ite (fun _ => ?_) (fun q => absurd rfl q))))
  refine Ev.bind c0 (Ev.bind ei (Ev.bind ee (ev_ite (fun _ => ?_) (fun q => absurd rfl q))))
  exact Ev.bind hh (ev_ite (fun q => absurd q (by omega)) (fun _ => ev_ite (fun _ => Ev.now _) (fun q => absurd rfl q)))

end Go.Proofs.YtgfpiijpgpkoiabDoor.Pure
