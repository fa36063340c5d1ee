/- The program's PathText answers as the reference's does, for all lists of texts; no condition. -/
import Derived.Test.YtgfpiijpgpkoiaaGFnExactPathTextx4
import Derived.Test.YtgfpiijpgpkoiaaBase
import Derived.Lib.Bytealg
import Derived.Lib.Join
namespace Go.Proofs.Ytgfpiijpgpkoiaa.Pure
open Go.RowKit Go.Proofs.Ytgfpiijpgpkoiaa.GFnExactPathText Go.Proofs.Ytgfpiijpgpkoiaa.Base Go.Proofs.YtgfpiijpgpkoiaaW.PrintWords Go.Proofs.YtgfpiijpgpkoiaaW.PrintLast
set_option linter.unusedVariables false
set_option linter.unusedSimpArgs false

theorem eqStringS_ev (a b : List ByteArray) (ha : a.length ≤ 9223372036854775806) : Ev (fun k => laws_eqStringS.f k a b) (eqb a b) := by
  unfold laws_eqStringS.f
  refine ev_ite (fun q => ?_) (fun q => ?_)
  · have q' : a.length = b.length := by omega
    refine eq_loop a b (· = ·) q' ha (fun i k => laws_eqStringS.l0 k a b (i : Int)) _ ((eqb_iff a b).trans (list_eq_iff a b q')) ?_ ?_
    · intro i hi
      apply ev_succ; simp only [laws_eqStringS.l0, if_neg (show ¬ (i : Int) < a.length by omega)]; exact Ev.now _
    · intro i x y v hi hx hy hw1 ih
      have hxx : rdOf ByteArray.empty a (i : Int) = x := hx _
      have hyy : rdOf ByteArray.empty b (i : Int) = y := hy _
      refine ⟨fun hR => ?_, fun hR => ?_⟩
      · apply ev_succ
        simp only [laws_eqStringS.l0, if_pos (show (i : Int) < a.length by omega), if_pos (show (0 : Int) ≤ i by omega), if_pos (show (i : Int) < b.length by omega), hxx, hyy, hw1, toList_iff, if_pos hR]; exact ih
      · apply ev_succ
        simp only [laws_eqStringS.l0, if_pos (show (i : Int) < a.length by omega), if_pos (show (0 : Int) ≤ i by omega), if_pos (show (i : Int) < b.length by omega), hxx, hyy, hw1, toList_iff, if_neg hR]; exact Ev.now _
  · rw [eqb_ne (fun h => q (by rw [h]))]; exact Ev.now _

/-- what is left of a measure behind a list of texts; -1: nothing -/
def szL : Int → List ByteArray → Int
  | left, [] => left
  | left, c :: r => if left - c.size < 0 then -1 else szL (left - c.size) r
def szStrs (left : Int) (l : List ByteArray) : Int := if left - l.length < 0 then -1 else szL (left - l.length) l
theorem szL_le : ∀ (l : List ByteArray) (left : Int), 0 ≤ szL left l → 0 ≤ left → szL left l ≤ left ∧ ∀ x ∈ l, (x.size : Int) ≤ left
  | [], left, h, _ => ⟨Int.le_refl _, fun x hx => by cases hx⟩
  | c :: r, left, h, h0 => by
    simp only [szL] at h ⊢
    by_cases q : left - c.size < 0
    · rw [if_pos q] at h; omega
    · rw [if_neg q] at h ⊢
      have := szL_le r (left - c.size) h (by omega)
      refine ⟨by omega, fun x hx => ?_⟩
      rcases List.mem_cons.mp hx with rfl | hx
      · omega
      · have := this.2 x hx; omega
theorem szStrs_le {left : Int} {l : List ByteArray} (h : ¬ szStrs left l < 0) : (l.length : Int) ≤ left ∧ szStrs left l ≤ left ∧ ∀ x ∈ l, (x.size : Int) ≤ left := by
  unfold szStrs at h ⊢
  by_cases q : left - l.length < 0
  · rw [if_pos q] at h; omega
  · rw [if_neg q] at h ⊢
    have := szL_le l (left - l.length) (by omega) (by omega)
    exact ⟨by omega, by omega, fun x hx => by have := this.2 x hx; omega⟩
theorem szStringS_ev (l : List ByteArray) (left : Int) (hl : l.length ≤ 9223372036854775807 ∧ ∀ x ∈ l, x.size ≤ 9223372036854775807) (h0 : 0 ≤ left) (h1 : left ≤ 1048576) : Ev (fun k => laws_szStringS.f k l left) (szStrs left l) := by
  unfold laws_szStringS.f szStrs
  rw [wrap_id (x := left - l.length) (by omega) (by omega)]
  refine ev_ite (fun q => ?_) (fun q => ?_)
  · rw [if_pos q]; exact Ev.now _
  · rw [if_neg q]
    refine list_loop_st l (by omega) (fun i x k => laws_szStringS.l0 k l x (i : Int)) (fun _ x r => szL x r) (fun i x r => 0 ≤ x ∧ x ≤ 1048576 ∧ ∀ c ∈ r, c.size ≤ 9223372036854775807) ?_ ?_ 0 _ ⟨by omega, by omega, hl.2⟩
    · intro i x _ hi
      apply ev_succ; simp only [laws_szStringS.l0, if_neg (show ¬ (i : Int) < l.length by omega)]; exact Ev.now _
    · intro i x c r ⟨hx0, hx1, hr⟩ h hb hi hw1 ih
      have hcs := hr c (by simp)
      have hbb : rdOf ByteArray.empty l (i : Int) = c := hb _
      apply ev_succ
      simp only [laws_szStringS.l0, if_pos (show (i : Int) < l.length by omega), if_pos (show (0 : Int) ≤ i by omega), hbb, hw1, wrap_id (x := x - c.size) (by omega) (by omega), szL]
      refine ev_ite (fun q => ?_) (fun q => ?_)
      · rw [if_pos q]; exact Ev.now _
      · rw [if_neg q]; exact ih _ ⟨by omega, by omega, fun d hd => hr d (by simp [hd])⟩
theorem toStringS_ev (l : List ByteArray) (hl : l.length ≤ 17592186044416) : Ev (fun k => laws_toStringS.f k l) l := by
  unfold laws_toStringS.f
  simp only [if_pos (show (0 : Int) ≤ (l.length : Int) by omega), Int.toNat_natCast, if_pos hl]
  have := fill_loop l (fun x => x) (⟨#[]⟩ : ByteArray) (by omega) (fun i x k => laws_toStringS.l0 k l x (i : Int)) ?_ ?_
  · simpa using this
  · intro i x hi
    apply ev_succ; simp only [laws_toStringS.l0, if_neg (show ¬ (i : Int) < l.length by omega)]; exact Ev.now _
  · intro i x c r hi hx hb hw1 ih
    have hbb : rdOf ByteArray.empty l (i : Int) = c := hb _
    apply ev_succ
    simp only [laws_toStringS.l0, if_pos (show (i : Int) < l.length by omega), if_pos (show (0 : Int) ≤ i by omega), if_pos (show (i : Int) < x.length by omega), hbb, hw1]
    exact ih

theorem lit_iff (s : ByteArray) (l : List UInt8) : s.toList = l ↔ bytesOf s = l.map fun b => (b.toNat : Int) := by
  rw [Lib.toList_data]
  unfold bytesOf
  constructor
  · intro h; rw [h]
  · intro h; exact List.map_inj_right (fun x y hxy => UInt8.toNat_inj.mp (by omega)) |>.mp h
theorem indexByte_mem : ∀ (l : List UInt8) (c : UInt8), 0 ≤ Lib.indexByte l c ↔ c ∈ l
  | [], c => by simp [Lib.indexByte]
  | b :: l, c => by
    have ih := indexByte_mem l c
    have hg := Lib.indexByte_ge l c
    simp only [Lib.indexByte]
    by_cases h : b = c
    · subst h; simp
    · have h' : (b == c) = false := by simpa using h
      have h2 : ¬ c = b := fun e => h e.symm
      rw [h']
      simp only [Bool.false_eq_true, if_false, List.mem_cons, h2, false_or, ← ih]
      by_cases q : Lib.indexByte l c = -1
      · simp [q]
      · have : (Lib.indexByte l c == -1) = false := by simpa using q
        rw [this]; simp only [Bool.false_eq_true, if_false]; omega
theorem mem_bytes (s : ByteArray) (c : UInt8) : c ∈ s.data.toList ↔ (c.toNat : Int) ∈ bytesOf s := by
  unfold bytesOf
  rw [List.mem_map]
  constructor
  · intro h; exact ⟨c, h, rfl⟩
  · rintro ⟨d, hd, he⟩
    have : d = c := UInt8.toNat_inj.mp (by omega)
    rw [← this]; exact hd

/-- byte classes -/
def plainC (c : Int) : Bool := decide (32 ≤ c) && decide (c ≤ 126)
def smallC (c : Int) : Bool := decide (97 ≤ c) && decide (c ≤ 122)
def digitC (c : Int) : Bool := decide (48 ≤ c) && decide (c ≤ 57)
def largeC (c : Int) : Bool := decide (65 ≤ c) && decide (c ≤ 90)

theorem l1In_eq (c a b : Int) : spec_l1In.f c a b = some (decide (a ≤ c) && decide (c ≤ b)) := by
  unfold spec_l1In.f; split <;> simp [*] <;> omega

theorem isPlain_eq (c : Int) : impl_isPlain.f c = some (plainC c) := by
  unfold impl_isPlain.f plainC; split <;> simp [*] <;> omega
def plainB (l : List Int) : Bool := l.all plainC
theorem impl_Plain_ev (s : ByteArray) (hs : s.size ≤ 140737488351232) : Ev (fun k => impl_Plain.f k s) (plainB (bytesOf s)) := by
  refine str_loop s (fun i k => impl_Plain.l0 k s (i : Int)) plainB ?_ ?_ hs 0
  · intro i hi
    apply ev_succ; simp only [impl_Plain.l0, if_neg (show ¬ (i : Int) < s.size by omega)]; exact Ev.now _
  · intro i c r h hb hi hw hw1 ih
    apply ev_succ
    simp only [impl_Plain.l0, if_pos (show (i : Int) < s.size by omega), if_pos (show (0 : Int) ≤ i by omega), hb, isPlain_eq, Option.bind_some, hw1]
    refine ev_ite (fun h => ?_) (fun h => ?_)
    · simpa [plainB, h] using ih
    · simpa [plainB, h] using Ev.now _
theorem spec_Plain_ev (s : ByteArray) (hs : s.size ≤ 140737488351232) : Ev (fun k => spec_Plain.f k s) (plainB (bytesOf s)) := by
  refine str_loop s (fun i k => spec_Plain.l0 k s (i : Int)) plainB ?_ ?_ hs 0
  · intro i hi
    apply ev_succ; simp only [spec_Plain.l0, if_neg (show ¬ (i : Int) < s.size by omega)]; exact Ev.now _
  · intro i c r h hb hi hw hw1 ih
    apply ev_succ
    simp only [spec_Plain.l0, if_pos (show (i : Int) < s.size by omega), if_pos (show (0 : Int) ≤ i by omega), hb, hw, l1In_eq, Option.bind_some, hw1]
    refine ev_ite (fun h => ?_) (fun h => ?_)
    · have : plainC c = true := h
      simpa [plainB, this] using ih
    · have : plainC c = false := by simpa [plainC] using h
      simpa [plainB, this] using Ev.now _

theorem in_eq (c a b : Int) : impl_in.f c a b = some (decide (a ≤ c) && decide (c ≤ b)) := by
  unfold impl_in.f; split <;> simp [*] <;> omega

def lenB (s : ByteArray) (a b : Int) : Bool := decide (a ≤ (s.size : Int)) && decide ((s.size : Int) ≤ b)

theorem dots1 (s : ByteArray) : s.toList = ([46] : List UInt8) ↔ bytesOf s = [46] := lit_iff s [46]
theorem dots2 (s : ByteArray) : s.toList = ([46, 46] : List UInt8) ↔ bytesOf s = [46, 46] := lit_iff s [46, 46]
/-- a name -/
noncomputable def nameOk (s : ByteArray) : Bool := lenB s 1 8 && (plainB (bytesOf s) && (!decb ((47 : Int) ∈ bytesOf s) && (!decb (bytesOf s = [46]) && !decb (bytesOf s = [46, 46]))))
theorem impl_NameOk_ev (s : ByteArray) (hs : s.size ≤ 140737488351232) : Ev (fun k => impl_NameOk.f k s) (nameOk s) := by
  unfold impl_NameOk.f nameOk
  simp only [in_eq, Option.bind_some]
  refine ev_iteB (fun q => ?_) (fun q => ?_)
  · rw [show lenB s 1 8 = true from q, Bool.true_and]
    refine Ev.bind (impl_Plain_ev s hs) (ev_iteB (fun q1 => ?_) (fun q1 => ?_))
    · rw [q1, Bool.true_and]
      have e0 : strings_Contains.f s (⟨#[47]⟩ : ByteArray) = some (decide (0 ≤ Lib.indexByte s.data.toList 47)) := rfl
      have e1 : (0 ≤ Lib.indexByte s.data.toList 47) ↔ (47 : Int) ∈ bytesOf s := (indexByte_mem _ _).trans (mem_bytes s 47)
      simp only [e0, Option.bind_some]
      refine ev_iteB (fun q2 => ?_) (fun q2 => ?_)
      · rw [decb_true (e1.mp (of_decide_eq_true q2))]; exact Ev.now _
      · rw [decb_false (fun h => of_decide_eq_false q2 (e1.mpr h)), Bool.not_false, Bool.true_and]
        refine ev_ite (fun q3 => ?_) (fun q3 => ?_)
        · rw [decb_true ((dots1 s).mp q3)]; exact Ev.now _
        · rw [decb_false (fun h => q3 ((dots1 s).mpr h)), Bool.not_false, Bool.true_and]
          have : (s.toList != ([46, 46] : List UInt8)) = !decb (bytesOf s = [46, 46]) := by
            by_cases h : s.toList = [46, 46]
            · rw [decb_true ((dots2 s).mp h), h]; rfl
            · rw [decb_false (fun h2 => h ((dots2 s).mpr h2))]; simpa using h
          rw [this]; exact Ev.now _
    · rw [q1, Bool.false_and]; exact Ev.now _
  · rw [show lenB s 1 8 = false from q, Bool.false_and]; exact Ev.now _
theorem spec_NameOk_ev (s : ByteArray) (hs : s.size ≤ 140737488351232) : Ev (fun k => spec_NameOk.f k s) (nameOk s) := by
  have H := str_loop_st s (fun i (_ : Unit) k => spec_NameOk.l0 k s (i : Int)) (fun i _ r => !decb ((47 : Int) ∈ r) && (lenB s 1 8 && (plainB (bytesOf s) && (!decb (bytesOf s = [46]) && !decb (bytesOf s = [46, 46]))))) (fun _ _ _ => True) ?_ ?_ hs 0 () trivial
  · have e : nameOk s = (!decb ((47 : Int) ∈ bytesOf s) && (lenB s 1 8 && (plainB (bytesOf s) && (!decb (bytesOf s = [46]) && !decb (bytesOf s = [46, 46]))))) := by
      unfold nameOk
      cases lenB s 1 8 <;> cases plainB (bytesOf s) <;> cases decb ((47 : Int) ∈ bytesOf s) <;> simp
    rw [e]; exact H
  · intro i _ _ hi
    rw [decb_false (by simp), Bool.not_false, Bool.true_and]
    apply ev_succ
    simp only [spec_NameOk.l0, if_neg (show ¬ (i : Int) < s.size by omega), l1In_eq, Option.bind_some]
    refine ev_iteB (fun q => ?_) (fun q => ?_)
    · rw [show lenB s 1 8 = true from q, Bool.true_and]
      refine Ev.bind (spec_Plain_ev s hs) (ev_iteB (fun q1 => ?_) (fun q1 => ?_))
      · rw [q1, Bool.true_and]
        refine ev_ite (fun q3 => ?_) (fun q3 => ?_)
        · rw [decb_true ((dots1 s).mp q3)]; exact Ev.now _
        · rw [decb_false (fun h => q3 ((dots1 s).mpr h)), Bool.not_false, Bool.true_and]
          have : (s.toList != ([46, 46] : List UInt8)) = !decb (bytesOf s = [46, 46]) := by
            by_cases h : s.toList = [46, 46]
            · rw [decb_true ((dots2 s).mp h), h]; rfl
            · rw [decb_false (fun h2 => h ((dots2 s).mpr h2))]; simpa using h
          rw [this]; exact Ev.now _
      · rw [q1, Bool.false_and]; exact Ev.now _
    · rw [show lenB s 1 8 = false from q, Bool.false_and]; exact Ev.now _
  · intro i _ c r _ h hb hi hw hw1 ih
    apply ev_succ
    simp only [spec_NameOk.l0, if_pos (show (i : Int) < s.size by omega), if_pos (show (0 : Int) ≤ i by omega), hb, hw1]
    refine ev_ite (fun q => ?_) (fun q => ?_)
    · subst q; rw [decb_true (by simp), Bool.not_true, Bool.false_and]; exact Ev.now _
    · have e : decb ((47 : Int) ∈ c :: r) = decb ((47 : Int) ∈ r) := by
        rw [Bool.eq_iff_iff, decb_iff, decb_iff, List.mem_cons]
        exact ⟨fun h => h.elim (fun e => absurd e.symm q) id, .inr⟩
      rw [e]; exact ih () trivial

/-- a path -/
noncomputable def pathOk (p : List ByteArray) : Bool := p.all nameOk && decide ((p.length : Int) ≤ 4)
theorem impl_PathOk_ev (p : List ByteArray) (hl : p.length ≤ 9223372036854775806) (hp : ∀ x ∈ p, x.size ≤ 140737488351232) : Ev (fun k => impl_PathOk.f k p) (pathOk p) := by
  refine list_loop_st p hl (fun i (_ : Unit) k => impl_PathOk.l0 k p p (p.length : Int) (i : Int)) (fun _ _ r => r.all nameOk && decide ((p.length : Int) ≤ 4)) (fun _ _ r => ∀ x ∈ r, x.size ≤ 140737488351232) ?_ ?_ 0 () hp
  · intro i _ _ hi
    apply ev_succ; simp only [impl_PathOk.l0, if_neg (show ¬ (i : Int) < p.length by omega)]; exact Ev.now _
  · intro i _ c r hr h hb hi hw1 ih
    have hbb : rdOf ByteArray.empty p (i : Int) = c := hb _
    apply ev_succ
    simp only [impl_PathOk.l0, if_pos (show (i : Int) < p.length by omega), if_pos (show (0 : Int) ≤ i by omega), hbb, hw1]
    refine Ev.bind (impl_NameOk_ev c (hr c (by simp))) (ev_iteB (fun q => ?_) (fun q => ?_))
    · rw [List.all_cons, q, Bool.true_and]; exact ih () (fun x hx => hr x (by simp [hx]))
    · rw [List.all_cons, q, Bool.false_and, Bool.false_and]; exact Ev.now _
theorem spec_PathOk_ev (p : List ByteArray) (hl : p.length ≤ 9223372036854775806) (hp : ∀ x ∈ p, x.size ≤ 140737488351232) : Ev (fun k => spec_PathOk.f k p) (pathOk p) := by
  refine list_loop_st p hl (fun i (_ : Unit) k => spec_PathOk.l0 k p (i : Int)) (fun _ _ r => r.all nameOk && decide ((p.length : Int) ≤ 4)) (fun _ _ r => ∀ x ∈ r, x.size ≤ 140737488351232) ?_ ?_ 0 () hp
  · intro i _ _ hi
    apply ev_succ; simp only [spec_PathOk.l0, if_neg (show ¬ (i : Int) < p.length by omega)]; exact Ev.now _
  · intro i _ c r hr h hb hi hw1 ih
    have hbb : rdOf ByteArray.empty p (i : Int) = c := hb _
    apply ev_succ
    simp only [spec_PathOk.l0, if_pos (show (i : Int) < p.length by omega), if_pos (show (0 : Int) ≤ i by omega), hbb, hw1]
    refine Ev.bind (spec_NameOk_ev c (hr c (by simp))) (ev_iteB (fun q => ?_) (fun q => ?_))
    · rw [List.all_cons, q, Bool.true_and]; exact ih () (fun x hx => hr x (by simp [hx]))
    · rw [List.all_cons, q, Bool.false_and, Bool.false_and]; exact Ev.now _

theorem isSmall_eq (c : Int) : impl_isSmall.f c = some (smallC c) := by
  unfold impl_isSmall.f smallC; split <;> simp [*] <;> omega

theorem isLarge_eq (c : Int) : impl_isLarge.f c = some (largeC c) := by
  unfold impl_isLarge.f largeC; split <;> simp [*] <;> omega

theorem isDigit_eq (c : Int) : impl_isDigit.f c = some (digitC c) := by
  unfold impl_isDigit.f digitC; split <;> simp [*] <;> omega

theorem l1Small_eq (c : Int) (h : wrap64 c = c) : spec_l1Small.f c = some (smallC c) := by
  unfold spec_l1Small.f; rw [h, l1In_eq]; rfl

theorem l1Large_eq (c : Int) (h : wrap64 c = c) : spec_l1Large.f c = some (largeC c) := by
  unfold spec_l1Large.f; rw [h, l1In_eq]; rfl

theorem l1Digit_eq (c : Int) (h : wrap64 c = c) : spec_l1Digit.f c = some (digitC c) := by
  unfold spec_l1Digit.f; rw [h, l1In_eq]; rfl

def freeC (c : Int) : Bool := smallC c || (largeC c || (digitC c || (decide (c = 45) || (decide (c = 46) || (decide (c = 95) || decide (c = 126))))))
def hexD (n : Int) : Int := if n < 10 then 48 + n else 55 + n
def quoC (c : Int) : List Int := if freeC c = true then [c] else [37, hexD (c / 16), hexD (c % 16)]
def quoL (l : List Int) : List Int := l.flatMap quoC
theorem quoC_len (c : Int) : (quoC c).length ≤ 3 := by unfold quoC; split <;> simp
theorem bits15 (c : Int) (h0 : 0 ≤ c) (h1 : c < 256) : Go.bits .and .u8 c 15 = c % 16 := by
  have H : ∀ n : Fin 256, Go.bits .and .u8 (n.val : Int) 15 = (n.val : Int) % 16 := by decide +kernel
  have := H ⟨c.toNat, by omega⟩
  have e : ((c.toNat : Nat) : Int) = c := by omega
  simpa only [e] using this
theorem digits_bt (n : Int) (h0 : 0 ≤ n) (h1 : n < 16) : bt (⟨#[48, 49, 50, 51, 52, 53, 54, 55, 56, 57, 65, 66, 67, 68, 69, 70]⟩ : ByteArray) n = hexD n := by
  have H : ∀ n : Fin 16, bt (⟨#[48, 49, 50, 51, 52, 53, 54, 55, 56, 57, 65, 66, 67, 68, 69, 70]⟩ : ByteArray) (n.val : Int) = hexD (n.val : Int) := by decide +kernel
  have := H ⟨n.toNat, by omega⟩
  have e : ((n.toNat : Nat) : Int) = n := by omega
  simpa only [e] using this
theorem index4 (c : Int) (h0 : 0 ≤ c) (h1 : c < 256) : (Lib.indexByte (⟨#[45, 46, 95, 126]⟩ : ByteArray).data.toList c.toNat.toUInt8 ≥ 0) ↔ (c = 45 ∨ c = 46 ∨ c = 95 ∨ c = 126) := by
  have H : ∀ n : Fin 256, (decide (Lib.indexByte (⟨#[45, 46, 95, 126]⟩ : ByteArray).data.toList n.val.toUInt8 ≥ 0)) = decide ((n.val : Int) = 45 ∨ (n.val : Int) = 46 ∨ (n.val : Int) = 95 ∨ (n.val : Int) = 126) := by decide +kernel
  have := H ⟨c.toNat, by omega⟩
  have e : ((c.toNat : Nat) : Int) = c := by omega
  simp only [e] at this
  exact decide_eq_decide.mp this
theorem impl_Quote_l0 {s : ByteArray} (hs : s.size ≤ 1048576) : ∀ (i : Nat) (x : List Int), x.length ≤ 3 * i → Ev (fun k => impl_Quote.l0 k s x (i : Int)) (strOfNums (x ++ quoL ((bytesOf s).drop i))) := by
  refine str_loop_st s (fun i x k => impl_Quote.l0 k s x (i : Int)) (fun i x r => strOfNums (x ++ quoL r)) (fun i x _ => x.length ≤ 3 * i) ?_ ?_ (by omega)
  · intro i x _ hi
    apply ev_succ; simp only [impl_Quote.l0, if_neg (show ¬ (i : Int) < s.size by omega)]
    simpa [quoL] using Ev.now (strOfNums x)
  · intro i x c r hx h hb hi hw hw1 ih
    have hc := bytesOf_range s c (List.mem_of_mem_drop (by rw [h]; simp : c ∈ (bytesOf s).drop i))
    have fin : ∀ y : List Int, y = quoC c → Ev (fun k => impl_Quote.l0 k s (x ++ y) ((i + 1 : Nat) : Int)) (strOfNums (x ++ quoL (c :: r))) := by
      intro y hy
      have h3 := quoC_len c
      have := ih (x ++ y) (by rw [List.length_append, hy]; omega)
      rw [List.append_assoc] at this
      simpa [quoL, hy] using this
    have g1 : x.length < 140737488355328 := by omega
    have g2 : x.length + (0 + 1 + 1 + 1) < 140737488355328 := by omega
    have d0 : 0 ≤ c / 16 := by omega
    have d1 : c / 16 < 16 := by omega
    have e0 : 0 ≤ c % 16 := by omega
    have e1 : c % 16 < 16 := by omega
    apply ev_succ
    simp only [impl_Quote.l0, if_pos (show (i : Int) < s.size by omega), if_pos (show (0 : Int) ≤ i by omega), hb, hw1, isSmall_eq, isLarge_eq, isDigit_eq, Option.bind_some, if_pos g1, strings_IndexByte.f, index4 c hc.1 hc.2, bits15 c hc.1 hc.2, if_pos d0, if_pos d1, if_pos e0, if_pos e1, digits_bt _ d0 d1, digits_bt _ e0 e1, List.length_cons, List.length_nil]
    refine ev_iteB (fun q => fin _ ?_) (fun q => ev_iteB (fun q0 => fin _ ?_) (fun q0 => ev_iteB (fun q1 => fin _ ?_) (fun q1 => ev_ite (fun q2 => fin _ ?_) (fun q2 => ?_))))
    · simp [quoC, freeC, q]
    · simp [quoC, freeC, q0]
    · simp [quoC, freeC, q1]
    · rcases q2 with rfl | rfl | rfl | rfl <;> rfl
    · simp only [if_pos g2]
      refine fin _ ?_
      have hf : freeC c = false := by
        simp only [freeC, q, q0, q1, Bool.false_or, Bool.or_eq_false_iff, decide_eq_false_iff_not]
        exact ⟨fun e => q2 (.inl e), fun e => q2 (.inr (.inl e)), fun e => q2 (.inr (.inr (.inl e))), fun e => q2 (.inr (.inr (.inr e)))⟩
      simp [quoC, hf]
theorem impl_Quote_ev (s : ByteArray) (hs : s.size ≤ 1048576) : Ev (fun k => impl_Quote.f k s) (strOfNums (quoL (bytesOf s))) := impl_Quote_l0 hs 0 [] (by simp)
theorem l2Free_eq (c : Int) (hw : wrap64 c = c) : spec_l2Free.f c = some (freeC c) := by
  simp only [spec_l2Free.f, l1Small_eq c hw, l1Large_eq c hw, l1Digit_eq c hw, Option.bind_some, freeC]
  cases smallC c <;> cases largeC c <;> cases digitC c <;> simp
  by_cases a : c = 45 <;> by_cases b : c = 46 <;> by_cases d : c = 95 <;> first | (simp [a, b, d]; done) | (simp [a, b, d]; rfl)
theorem l2Digit_eq (n : Int) (h0 : 0 ≤ n) (h1 : n < 16) : spec_l2Digit.f n = some (hexD n) := by
  unfold spec_l2Digit.f hexD
  split
  · rw [wrap_id (by omega) (by omega)]; congr 1; omega
  · rw [wrap_id (x := 65 + n) (by omega) (by omega), wrap_id (by omega) (by omega)]; congr 1; omega
theorem spec_Quote_l0 {s : ByteArray} (hs : s.size ≤ 1048576) : ∀ (i : Nat) (x : List Int), x.length ≤ 3 * i → Ev (fun k => spec_Quote.l0 k s x (i : Int)) (strOfNums (x ++ quoL ((bytesOf s).drop i))) := by
  refine str_loop_st s (fun i x k => spec_Quote.l0 k s x (i : Int)) (fun i x r => strOfNums (x ++ quoL r)) (fun i x _ => x.length ≤ 3 * i) ?_ ?_ (by omega)
  · intro i x _ hi
    apply ev_succ; simp only [spec_Quote.l0, if_neg (show ¬ (i : Int) < s.size by omega)]
    simpa [quoL] using Ev.now (strOfNums x)
  · intro i x c r hx h hb hi hw hw1 ih
    have hc := bytesOf_range s c (List.mem_of_mem_drop (by rw [h]; simp : c ∈ (bytesOf s).drop i))
    have fin : ∀ y : List Int, y = quoC c → Ev (fun k => spec_Quote.l0 k s (x ++ y) ((i + 1 : Nat) : Int)) (strOfNums (x ++ quoL (c :: r))) := by
      intro y hy
      have h3 := quoC_len c
      have := ih (x ++ y) (by rw [List.length_append, hy]; omega)
      rw [List.append_assoc] at this
      simpa [quoL, hy] using this
    have g1 : x.length < 140737488355328 := by omega
    have g2 : x.length + (0 + 1 + 1 + 1) < 140737488355328 := by omega
    have d1 : wrap64 (Int.tdiv c 16) = c / 16 := by rw [Int.tdiv_eq_ediv_of_nonneg hc.1, wrap_id (by omega) (by omega)]
    have d2 : Int.tmod c 16 = c % 16 := Int.tmod_eq_emod_of_nonneg hc.1
    apply ev_succ
    simp only [spec_Quote.l0, if_pos (show (i : Int) < s.size by omega), if_pos (show (0 : Int) ≤ i by omega), hb, hw1, hw, l2Free_eq c hw, Option.bind_some, if_pos g1, d1, d2, l2Digit_eq (c / 16) (by omega) (by omega), l2Digit_eq (c % 16) (by omega) (by omega), List.length_cons, List.length_nil, if_pos g2]
    refine ev_iteB (fun q => fin _ ?_) (fun q => fin _ ?_)
    · simp [quoC, q]
    · simp [quoC, q]
theorem spec_Quote_ev (s : ByteArray) (hs : s.size ≤ 1048576) : Ev (fun k => spec_Quote.f k s) (strOfNums (quoL (bytesOf s))) := spec_Quote_l0 hs 0 [] (by simp)

def quoteB (x : ByteArray) : ByteArray := strOfNums (quoL (bytesOf x))
theorem sON_len (l : List Int) : (strOfNums l).size = l.length := by
  unfold strOfNums
  show (List.map _ l).toArray.size = _
  simp
theorem quoL_len : ∀ l : List Int, (quoL l).length ≤ 3 * l.length
  | [] => by simp [quoL]
  | c :: r => by
    have h1 := quoC_len c
    have h2 := quoL_len r
    have e : quoL (c :: r) = quoC c ++ quoL r := by simp [quoL]
    rw [e, List.length_append, List.length_cons]
    omega
theorem quoteB_size (x : ByteArray) : (quoteB x).size ≤ 3 * x.size := by
  unfold quoteB
  rw [sON_len]
  have := quoL_len (bytesOf x)
  rwa [bytesOf_length] at this
def catQ : List ByteArray → ByteArray
  | [] => (⟨#[]⟩ : ByteArray)
  | x :: r => ((⟨#[47]⟩ : ByteArray) ++ quoteB x) ++ catQ r
theorem catQ_size : ∀ p : List ByteArray, (∀ x ∈ p, x.size ≤ 1048576) → (catQ p).size ≤ 4000000 * p.length
  | [], _ => by show 0 ≤ _; omega
  | x :: r, h => by
    have h1 := quoteB_size x
    have h2 := h x (by simp)
    have h3 := catQ_size r (fun y hy => h y (by simp [hy]))
    rw [catQ]
    simp only [ByteArray.size_append, List.length_cons, show (⟨#[47]⟩ : ByteArray).size = 1 from rfl]
    omega
theorem catQ_data : ∀ p : List ByteArray, (catQ p).data.toList = p.flatMap fun x => 47 :: (quoteB x).data.toList
  | [] => rfl
  | x :: r => by
    rw [catQ]
    simp only [ByteArray.data_append, Array.toList_append, catQ_data r, List.flatMap_cons]
    rfl
noncomputable def pathT (p : List ByteArray) : ByteArray := if (catQ p).toList = [] then (⟨#[47]⟩ : ByteArray) else catQ p
noncomputable def pathText (p : List ByteArray) : ByteArray := if pathOk p = true then pathT p else (⟨#[]⟩ : ByteArray)
theorem spec_PathText_l0 (p : List ByteArray) (hl : p.length ≤ 4) (hp : ∀ x ∈ p, x.size ≤ 1048576) : ∀ (l : List ByteArray) (i : Nat) (x : ByteArray), p.drop i = l → x.size + 4000000 * l.length ≤ 100000000 →
    Ev (fun k => spec_PathText.l0 k p x (i : Int)) (if (x ++ catQ l).toList = [] then (⟨#[47]⟩ : ByteArray) else x ++ catQ l)
  | [], i, x, h, hx => by
    have := List.drop_eq_nil_iff.1 h
    apply ev_succ
    have e : x ++ catQ [] = x := by rw [catQ]; exact ByteArray.append_empty
    simp only [spec_PathText.l0, if_neg (show ¬ (i : Int) < (p.length : Int) by omega), e]
    refine ev_ite (fun q => ?_) (fun q => ?_)
    · rw [if_pos q]; exact Ev.now _
    · rw [if_neg q]; exact Ev.now _
  | c :: r, i, x, h, hx => by
    obtain ⟨hb, hi, hd, hg⟩ := l_drop h
    have hbb : rdOf ByteArray.empty p (i : Int) = c := hb _
    have hc := hp c (List.mem_of_getElem? hg)
    have hq := quoteB_size c
    simp only [List.length_cons] at hx
    apply ev_succ
    simp only [spec_PathText.l0, if_pos (show (i : Int) < (p.length : Int) by omega), if_pos (show (0 : Int) ≤ (i : Int) by omega), hbb, wrap_id (x := (i : Int) + 1) (by omega) (by omega), if_pos (show x.size + 1 ≤ 9223372036854775807 by omega)]
    refine Ev.bind (spec_Quote_ev c hc) ?_
    change Ev (fun k => if (x ++ (⟨#[47]⟩ : ByteArray)).size + (quoteB c).size ≤ 9223372036854775807 then spec_PathText.l0 k p ((x ++ (⟨#[47]⟩ : ByteArray)) ++ quoteB c) ((i : Int) + 1) else none) _
    have e1 : (x ++ (⟨#[47]⟩ : ByteArray)).size = x.size + 1 := by rw [ByteArray.size_append]; rfl
    simp only [e1, if_pos (show x.size + 1 + (quoteB c).size ≤ 9223372036854775807 by omega)]
    have ih := spec_PathText_l0 p hl hp r (i + 1) ((x ++ (⟨#[47]⟩ : ByteArray)) ++ quoteB c) hd (by rw [ByteArray.size_append, e1]; omega)
    have e2 : (x ++ (⟨#[47]⟩ : ByteArray)) ++ quoteB c ++ catQ r = x ++ catQ (c :: r) := by rw [catQ]; simp only [ByteArray.append_assoc]
    rw [e2] at ih
    exact ih
theorem pathOk_len {p : List ByteArray} (h : pathOk p = true) : p.length ≤ 4 := by
  unfold pathOk at h
  simp at h
  omega
theorem spec_PathText_ev (p : List ByteArray) (hl : p.length ≤ 9223372036854775806) (hp : ∀ x ∈ p, x.size ≤ 1048576) : Ev (fun k => spec_PathText.f k p) (pathText p) := by
  unfold spec_PathText.f pathText
  refine Ev.bind (spec_PathOk_ev p hl (fun x hx => by have := hp x hx; omega)) (ev_iteB (fun q => ?_) (fun q => ?_))
  · rw [if_pos q]
    have h4 := pathOk_len q
    have := spec_PathText_l0 p h4 hp p 0 (⟨#[]⟩ : ByteArray) rfl (by show 0 + _ ≤ _; omega)
    rw [show (⟨#[]⟩ : ByteArray) ++ catQ p = catQ p from ByteArray.empty_append] at this
    exact this
  · rw [if_neg (by rw [q]; simp)]; exact Ev.now _
theorem join_cat (p : List ByteArray) : (⟨#[47]⟩ : ByteArray) ++ (⟨(Lib.join ((p.map quoteB).map (·.data.toList)) [47]).toArray⟩ : ByteArray) = pathT p := by
  apply ByteArray.ext
  apply Array.toList_inj.mp
  unfold pathT
  match p with
  | [] =>
    rw [if_pos (by rw [Lib.toList_data]; rfl)]
    rfl
  | x :: r =>
    rw [if_neg (by rw [Lib.toList_data, catQ_data]; simp), catQ_data]
    simp only [List.map_cons, Lib.join_cons, ByteArray.data_append, Array.toList_append, List.flatMap_cons]
    have e : Lib.joinTail [47] ((r.map quoteB).map (·.data.toList)) = r.flatMap fun x => 47 :: (quoteB x).data.toList := by
      unfold Lib.joinTail
      rw [List.map_map, List.map_map, List.flatMap]
      rfl
    rw [e]
    rfl
theorem impl_PathText_ev (p : List ByteArray) (hl : p.length ≤ 9223372036854775806) (hp : ∀ x ∈ p, x.size ≤ 1048576) : Ev (fun k => impl_PathText.f k p) (pathText p) := by
  unfold impl_PathText.f pathText
  refine Ev.bind (impl_PathOk_ev p hl (fun x hx => by have := hp x hx; omega)) (ev_iteB (fun q => ?_) (fun q => ?_))
  · rw [if_pos q]
    have h4 := pathOk_len q
    have hz : (catQ p).size ≤ 4000000 * p.length := catQ_size p hp
    have hjl : (Lib.join ((p.map quoteB).map (·.data.toList)) [47]).length ≤ 16000001 := by
      have h1 := congrArg ByteArray.size (join_cat p)
      rw [ByteArray.size_append] at h1
      have h2 : (pathT p).size ≤ 16000000 + 1 := by
        unfold pathT
        split
        · show 1 ≤ _; omega
        · omega
      have h3 : (⟨(Lib.join ((p.map quoteB).map (·.data.toList)) [47]).toArray⟩ : ByteArray).size = (Lib.join ((p.map quoteB).map (·.data.toList)) [47]).length := by
        show (List.toArray _).size = _
        simp
      omega
    have loop : ∀ (l : List ByteArray) (i : Nat), p.drop i = l → Ev (fun k => impl_PathText.l0 k ((p.take i).map quoteB) p (p.length : Int) (i : Int)) (pathT p) := by
      intro l
      induction l with
      | nil =>
        intro i h
        have hge := List.drop_eq_nil_iff.1 h
        apply ev_succ
        have ht : p.take i = p := List.take_of_length_le hge
        simp only [impl_PathText.l0, if_neg (show ¬ (i : Int) < (p.length : Int) by omega), ht]
        have hj : strings_Join.f (p.map quoteB) (⟨#[47]⟩ : ByteArray) = some (⟨(Lib.join ((p.map quoteB).map (·.data.toList)) [47]).toArray⟩ : ByteArray) := by
          unfold strings_Join.f
          exact if_pos ⟨by rw [List.length_map]; omega, by
            show (Lib.join ((p.map quoteB).map (·.data.toList)) [47]).length ≤ _
            omega⟩
        rw [hj]
        simp only [Option.bind_some]
        have h3 : (⟨(Lib.join ((p.map quoteB).map (·.data.toList)) [47]).toArray⟩ : ByteArray).size = (Lib.join ((p.map quoteB).map (·.data.toList)) [47]).length := by
          show (List.toArray _).size = _
          simp
        rw [if_pos (by rw [h3]; omega), join_cat]
        exact Ev.now _
      | cons c r ih =>
        intro i h
        obtain ⟨hb, hi, hd, hg⟩ := l_drop h
        have hbb : rdOf ByteArray.empty p (i : Int) = c := hb _
        have hc := hp c (List.mem_of_getElem? hg)
        apply ev_succ
        simp only [impl_PathText.l0, if_pos (show (i : Int) < (p.length : Int) by omega), if_pos (show (0 : Int) ≤ (i : Int) by omega), hbb, wrap_id (x := (i : Int) + 1) (by omega) (by omega)]
        refine Ev.bind (impl_Quote_ev c hc) ?_
        have hlen : ((p.take i).map quoteB).length < 8796093022208 := by rw [List.length_map, List.length_take]; omega
        simp only [if_pos hlen]
        have e : (p.take i).map quoteB ++ [quoteB c] = (p.take (i + 1)).map quoteB := by
          rw [List.take_succ_eq_append_getElem hi, List.map_append]
          have : p[i] = c := by rw [List.getElem?_eq_getElem hi] at hg; injection hg
          rw [this]; rfl
        have := ih (i + 1) hd
        rw [← e] at this
        exact this
    exact loop p 0 rfl
  · rw [if_neg (by rw [q]; simp)]; exact Ev.now _

theorem FnExactPathText : laws_FnExactPathText.Pure := by
  intro l h
  apply Ev.rounds
  unfold laws_FnExactPathText.f
  refine Ev.bind (szStringS_ev l 1048576 h (by omega) (by omega)) (ev_ite (fun _ => Ev.now _) (fun q => ?_))
  obtain ⟨a0, _, a2⟩ := szStrs_le q
  have c := toStringS_ev l (by omega)
  have hp : ∀ x ∈ l, x.size ≤ 1048576 := fun x hx => by have := a2 x hx; omega
  refine Ev.bind c (Ev.bind (spec_PathText_ev l (by omega) hp) (Ev.bind c (Ev.bind (impl_PathText_ev l (by omega) hp) ?_)))
  simp only [if_true]
  exact Ev.bind c (Ev.bind (eqStringS_ev l l (by omega)) (ev_ite (fun _ => Ev.now _) (fun q => absurd (eqb_self l) q)))

end Go.Proofs.Ytgfpiijpgpkoiaa.Pure
