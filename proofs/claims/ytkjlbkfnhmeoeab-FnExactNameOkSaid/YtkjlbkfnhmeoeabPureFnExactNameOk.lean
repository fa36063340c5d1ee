/- The program's NameOk answers as the reference's does, for every text; no condition. -/
import Derived.Test.YtkjlbkfnhmeoeabGFnExactNameOkx1
import Derived.Test.YtkjlbkfnhmeoeabBase
import Derived.Lib.Bytealg
namespace Go.Proofs.Ytkjlbkfnhmeoeab.Pure
open Go.RowKit Go.Proofs.Ytkjlbkfnhmeoeab.GFnExactNameOk Go.Proofs.Ytkjlbkfnhmeoeab.Base Go.Proofs.YtkjlbkfnhmeoeabW.PrintWords Go.Proofs.YtkjlbkfnhmeoeabW.PrintLast
set_option linter.unusedVariables false
set_option linter.unusedSimpArgs false

theorem lit_iff (s : ByteArray) (l : List UInt8) : s.toList = l ↔ bytesOf s = l.map fun b => (b.toNat : Int) := by
  rw [Lib.toList_data]
  unfold bytesOf
  constructor
  · intro h; rw [h]
  · intro h; exact List.map_inj_right (fun x y hxy => UInt8.toNat_inj.mp (by omega)) |>.mp h
theorem indexByte_mem : ∀ (l : List UInt8) (c : UInt8), 0 ≤ Lib.indexByte l c ↔ c ∈ l
  | [], c => by simp [Lib.indexByte]
  | b :: l, c => by
    have ih := indexByte_mem l c
    have hg := Lib.indexByte_ge l c
    simp only [Lib.indexByte]
    by_cases h : b = c
    · subst h; simp
    · have h' : (b == c) = false := by simpa using h
      have h2 : ¬ c = b := fun e => h e.symm
      rw [h']
      simp only [Bool.false_eq_true, if_false, List.mem_cons, h2, false_or, ← ih]
      by_cases q : Lib.indexByte l c = -1
      · simp [q]
      · have : (Lib.indexByte l c == -1) = false := by simpa using q
        rw [this]; simp only [Bool.false_eq_true, if_false]; omega
theorem mem_bytes (s : ByteArray) (c : UInt8) : c ∈ s.data.toList ↔ (c.toNat : Int) ∈ bytesOf s := by
  unfold bytesOf
  rw [List.mem_map]
  constructor
  · intro h; exact ⟨c, h, rfl⟩
  · rintro ⟨d, hd, he⟩
    have : d = c := UInt8.toNat_inj.mp (by omega)
    rw [← this]; exact hd

/-- byte classes -/
def plainC (c : Int) : Bool := decide (32 ≤ c) && decide (c ≤ 126)
def smallC (c : Int) : Bool := decide (97 ≤ c) && decide (c ≤ 122)
def digitC (c : Int) : Bool := decide (48 ≤ c) && decide (c ≤ 57)
def largeC (c : Int) : Bool := decide (65 ≤ c) && decide (c ≤ 90)

theorem l1In_eq (c a b : Int) : spec_l1In.f c a b = some (decide (a ≤ c) && decide (c ≤ b)) := by
  unfold spec_l1In.f; split <;> simp [*] <;> omega

theorem isPlain_eq (c : Int) : impl_isPlain.f c = some (plainC c) := by
  unfold impl_isPlain.f plainC; split <;> simp [*] <;> omega
def plainB (l : List Int) : Bool := l.all plainC
theorem impl_Plain_ev (s : ByteArray) (hs : s.size ≤ 140737488351232) : Ev (fun k => impl_Plain.f k s) (plainB (bytesOf s)) := by
  refine str_loop s (fun i k => impl_Plain.l0 k s (i : Int)) plainB ?_ ?_ hs 0
  · intro i hi
    apply ev_succ; simp only [impl_Plain.l0, if_neg (show ¬ (i : Int) < s.size by omega)]; exact Ev.now _
  · intro i c r h hb hi hw hw1 ih
    apply ev_succ
    simp only [impl_Plain.l0, if_pos (show (i : Int) < s.size by omega), if_pos (show (0 : Int) ≤ i by omega), hb, isPlain_eq, Option.bind_some, hw1]
    refine ev_ite (fun h => ?_) (fun h => ?_)
    · simpa [plainB, h] using ih
    · simpa [plainB, h] using Ev.now _
theorem spec_Plain_ev (s : ByteArray) (hs : s.size ≤ 140737488351232) : Ev (fun k => spec_Plain.f k s) (plainB (bytesOf s)) := by
  refine str_loop s (fun i k => spec_Plain.l0 k s (i : Int)) plainB ?_ ?_ hs 0
  · intro i hi
    apply ev_succ; simp only [spec_Plain.l0, if_neg (show ¬ (i : Int) < s.size by omega)]; exact Ev.now _
  · intro i c r h hb hi hw hw1 ih
    apply ev_succ
    simp only [spec_Plain.l0, if_pos (show (i : Int) < s.size by omega), if_pos (show (0 : Int) ≤ i by omega), hb, hw, l1In_eq, Option.bind_some, hw1]
    refine ev_ite (fun h => ?_) (fun h => ?_)
    · have : plainC c = true := h
      simpa [plainB, this] using ih
    · have : plainC c = false := by simpa [plainC] using h
      simpa [plainB, this] using Ev.now _

theorem in_eq (c a b : Int) : impl_in.f c a b = some (decide (a ≤ c) && decide (c ≤ b)) := by
  unfold impl_in.f; split <;> simp [*] <;> omega

def lenB (s : ByteArray) (a b : Int) : Bool := decide (a ≤ (s.size : Int)) && decide ((s.size : Int) ≤ b)

theorem dots1 (s : ByteArray) : s.toList = ([46] : List UInt8) ↔ bytesOf s = [46] := lit_iff s [46]
theorem dots2 (s : ByteArray) : s.toList = ([46, 46] : List UInt8) ↔ bytesOf s = [46, 46] := lit_iff s [46, 46]
/-- a name -/
noncomputable def nameOk (s : ByteArray) : Bool := lenB s 1 8 && (plainB (bytesOf s) && (!decb ((47 : Int) ∈ bytesOf s) && (!decb (bytesOf s = [46]) && !decb (bytesOf s = [46, 46]))))
theorem impl_NameOk_ev (s : ByteArray) (hs : s.size ≤ 140737488351232) : Ev (fun k => impl_NameOk.f k s) (nameOk s) := by
  unfold impl_NameOk.f nameOk
  simp only [in_eq, Option.bind_some]
  refine ev_iteB (fun q => ?_) (fun q => ?_)
  · rw [show lenB s 1 8 = true from q, Bool.true_and]
    refine Ev.bind (impl_Plain_ev s hs) (ev_iteB (fun q1 => ?_) (fun q1 => ?_))
    · rw [q1, Bool.true_and]
      have e0 : strings_Contains.f s (⟨#[47]⟩ : ByteArray) = some (decide (0 ≤ Lib.indexByte s.data.toList 47)) := rfl
      have e1 : (0 ≤ Lib.indexByte s.data.toList 47) ↔ (47 : Int) ∈ bytesOf s := (indexByte_mem _ _).trans (mem_bytes s 47)
      simp only [e0, Option.bind_some]
      refine ev_iteB (fun q2 => ?_) (fun q2 => ?_)
      · rw [decb_true (e1.mp (of_decide_eq_true q2))]; exact Ev.now _
      · rw [decb_false (fun h => of_decide_eq_false q2 (e1.mpr h)), Bool.not_false, Bool.true_and]
        refine ev_ite (fun q3 => ?_) (fun q3 => ?_)
        · rw [decb_true ((dots1 s).mp q3)]; exact Ev.now _
        · rw [decb_false (fun h => q3 ((dots1 s).mpr h)), Bool.not_false, Bool.true_and]
          have : (s.toList != ([46, 46] : List UInt8)) = !decb (bytesOf s = [46, 46]) := by
            by_cases h : s.toList = [46, 46]
            · rw [decb_true ((dots2 s).mp h), h]; rfl
            · rw [decb_false (fun h2 => h ((dots2 s).mpr h2))]; simpa using h
          rw [this]; exact Ev.now _
    · rw [q1, Bool.false_and]; exact Ev.now _
  · rw [show lenB s 1 8 = false from q, Bool.false_and]; exact Ev.now _
theorem spec_NameOk_ev (s : ByteArray) (hs : s.size ≤ 140737488351232) : Ev (fun k => spec_NameOk.f k s) (nameOk s) := by
  have H := str_loop_st s (fun i (_ : Unit) k => spec_NameOk.l0 k s (i : Int)) (fun i _ r => !decb ((47 : Int) ∈ r) && (lenB s 1 8 && (plainB (bytesOf s) && (!decb (bytesOf s = [46]) && !decb (bytesOf s = [46, 46]))))) (fun _ _ _ => True) ?_ ?_ hs 0 () trivial
  · have e : nameOk s = (!decb ((47 : Int) ∈ bytesOf s) && (lenB s 1 8 && (plainB (bytesOf s) && (!decb (bytesOf s = [46]) && !decb (bytesOf s = [46, 46]))))) := by
      unfold nameOk
      cases lenB s 1 8 <;> cases plainB (bytesOf s) <;> cases decb ((47 : Int) ∈ bytesOf s) <;> simp
    rw [e]; exact H
  · intro i _ _ hi
    rw [decb_false (by simp), Bool.not_false, Bool.true_and]
    apply ev_succ
    simp only [spec_NameOk.l0, if_neg (show ¬ (i : Int) < s.size by omega), l1In_eq, Option.bind_some]
    refine ev_iteB (fun q => ?_) (fun q => ?_)
    · rw [show lenB s 1 8 = true from q, Bool.true_and]
      refine Ev.bind (spec_Plain_ev s hs) (ev_iteB (fun q1 => ?_) (fun q1 => ?_))
      · rw [q1, Bool.true_and]
        refine ev_ite (fun q3 => ?_) (fun q3 => ?_)
        · rw [decb_true ((dots1 s).mp q3)]; exact Ev.now _
        · rw [decb_false (fun h => q3 ((dots1 s).mpr h)), Bool.not_false, Bool.true_and]
          have : (s.toList != ([46, 46] : List UInt8)) = !decb (bytesOf s = [46, 46]) := by
            by_cases h : s.toList = [46, 46]
            · rw [decb_true ((dots2 s).mp h), h]; rfl
            · rw [decb_false (fun h2 => h ((dots2 s).mpr h2))]; simpa using h
          rw [this]; exact Ev.now _
      · rw [q1, Bool.false_and]; exact Ev.now _
    · rw [show lenB s 1 8 = false from q, Bool.false_and]; exact Ev.now _
  · intro i _ c r _ h hb hi hw hw1 ih
    apply ev_succ
    simp only [spec_NameOk.l0, if_pos (show (i : Int) < s.size by omega), if_pos (show (0 : Int) ≤ i by omega), hb, hw1]
    refine ev_ite (fun q => ?_) (fun q => ?_)
    · subst q; rw [decb_true (by simp), Bool.not_true, Bool.false_and]; exact Ev.now _
    · have e : decb ((47 : Int) ∈ c :: r) = decb ((47 : Int) ∈ r) := by
        rw [Bool.eq_iff_iff, decb_iff, decb_iff, List.mem_cons]
        exact ⟨fun h => h.elim (fun e => absurd e.symm q) id, .inr⟩
      rw [e]; exact ih () trivial

theorem FnExactNameOk : laws_FnExactNameOk.Pure := by
  intro s hs
  apply Ev.rounds
  unfold laws_FnExactNameOk.f
  exact ev_ite (fun _ => Ev.now _) (fun _ => exact_bool (spec_NameOk_ev s hs) (impl_NameOk_ev s hs) rfl)

end Go.Proofs.Ytkjlbkfnhmeoeab.Pure
