/- A drawn text comes back escaped, without a mark in it, and what is not escaped is as the reference has it, for all codes; no condition. -/
import Derived.Test.YtgfpiijpgpkoiabDoorGFnEscapesx3
import Derived.Test.YtgfpiijpgpkoiabDoorBase
import Derived.Lib.Bytealg
import Derived.Lib.IndexMore
import Derived.Lib.Index
import Derived.Lib.ItoaNum
import Derived.Lib.AtoiTie
namespace Go.Proofs.YtgfpiijpgpkoiabDoor.Pure
open Go.RowKit Go.Proofs.YtgfpiijpgpkoiabDoor.GFnEscapes Go.Proofs.YtgfpiijpgpkoiabDoor.Base Go.Proofs.YtgfpiijpgpkoiabDoorW.PrintWords Go.Proofs.YtgfpiijpgpkoiabDoorW.PrintLast
set_option linter.unusedVariables false
set_option linter.unusedSimpArgs false

/-! what is drawn: something, with what is known of it -/
theorem bits255 (x : Int) : 0 ≤ Go.bits .and .i64 x 255 ∧ Go.bits .and .i64 x 255 ≤ 255 := by
  have h2 : (BitVec.ofInt 64 x).toNat &&& 255 ≤ 255 := Nat.and_le_right
  have h : Go.bits .and .i64 x 255 = IntKind.i64.wrap (((BitVec.ofInt 64 x &&& BitVec.ofInt 64 255).toNat : Nat) : Int) := rfl
  have e : (BitVec.ofInt 64 255).toNat = 255 := by decide
  rw [h, BitVec.toNat_and, e, IntKind.wrap_i64]
  omega
def Dr {α : Type} (f : List Int → Int → Int → Option (α × Int × Int)) (P : α → Prop) : Prop :=
  ∀ (b : List Int) (i h : Int), b.length ≤ 1048576 → 0 ≤ i → i ≤ b.length → ∃ x i' h', f b i h = some (x, i', h') ∧ P x ∧ 0 ≤ i' ∧ i' ≤ b.length
def DrE {α : Type} (f : Nat → List Int → Int → Int → Option (α × Int × Int)) (P : α → Prop) : Prop :=
  ∀ (b : List Int) (i h : Int), b.length ≤ 1048576 → 0 ≤ i → i ≤ b.length → ∃ x i' h', Ev (fun k => f k b i h) (x, i', h') ∧ P x ∧ 0 ≤ i' ∧ i' ≤ b.length
theorem l1New_ev (l : List Int) (hl : l.length ≤ 1048576) : ∃ h, Ev (fun k => spec_l1New.f k l) (l, (0 : Int), h) := by
  have key : ∀ n i (x : Int), l.length - i = n → ∃ h, Ev (fun k => spec_l1New.l0 k l x (i : Int)) (l, (0 : Int), h) := by
    intro n
    induction n with
    | zero =>
      intro i x hn
      refine ⟨x, ?_⟩
      apply ev_succ; simp only [spec_l1New.l0, if_neg (show ¬ (i : Int) < (l.length : Int) by omega)]; exact Ev.now _
    | succ n ih =>
      intro i x hn
      by_cases h4 : (i : Int) < 4000
      · obtain ⟨h, hh⟩ := ih (i + 1) (Go.bits .and .i64 (wrap64 ((wrap64 ((wrap64 (x * 137)) + (wrap64 (rd l i)))) + 11)) 1073741823) (by omega)
        refine ⟨h, ?_⟩
        apply ev_succ
        simp only [spec_l1New.l0, if_pos (show (i : Int) < (l.length : Int) by omega), if_pos h4, if_pos (show (0 : Int) ≤ (i : Int) by omega), wrap_id (x := (i : Int) + 1) (by omega) (by omega)]
        exact hh
      · refine ⟨x, ?_⟩
        apply ev_succ; simp only [spec_l1New.l0, if_pos (show (i : Int) < (l.length : Int) by omega), if_neg h4]; exact Ev.now _
  exact key _ 0 _ rfl
theorem l1Byte_dr : Dr spec_l1Byte.f (fun x => 0 ≤ x ∧ x ≤ 255) := by
  intro b i h hb h0 h1
  unfold spec_l1Byte.f
  by_cases q : i < (b.length : Int)
  · rw [if_pos q, if_pos h0]
    exact ⟨_, _, _, rfl, bits255 _, by rw [wrap_id (by omega) (by omega)]; omega, by rw [wrap_id (by omega) (by omega)]; omega⟩
  · rw [if_neg q]
    exact ⟨_, _, _, rfl, bits255 _, h0, h1⟩
theorem tmod_range (x n : Int) (hx : 0 ≤ x) (hn : 0 < n) : 0 ≤ Int.tmod x n ∧ Int.tmod x n < n := by
  rw [Int.tmod_eq_emod_of_nonneg hx]
  exact ⟨Int.emod_nonneg _ (by omega), Int.emod_lt_of_pos _ hn⟩
theorem l1Below_dr (n : Int) : Dr (fun b i h => spec_l1Below.f b i h n) (fun x => 0 ≤ x ∧ (0 < n → x < n)) := by
  intro b i h hb h0 h1
  show ∃ x i' h', spec_l1Below.f b i h n = some (x, i', h') ∧ _
  unfold spec_l1Below.f
  by_cases q : n ≤ 0
  · rw [if_pos q]
    exact ⟨_, _, _, rfl, ⟨by omega, by omega⟩, h0, h1⟩
  · rw [if_neg q]
    obtain ⟨x, i1, e1, f1, p1, a1, b1⟩ := l1Byte_dr b i h hb h0 h1
    by_cases q1 : n ≤ 256
    · rw [if_pos q1, f1]
      simp only [Option.bind_some, if_neg (show ¬ n = 0 by omega)]
      have := tmod_range x n p1.1 (by omega)
      exact ⟨_, _, _, rfl, ⟨this.1, fun _ => this.2⟩, a1, b1⟩
    · rw [if_neg q1, f1]
      obtain ⟨y, i2, e2, f2, p2, a2, b2⟩ := l1Byte_dr b i1 e1 hb a1 b1
      obtain ⟨z, i3, e3, f3, p3, a3, b3⟩ := l1Byte_dr b i2 e2 hb a2 b2
      simp only [Option.bind_some, f2, f3, if_neg (show ¬ n = 0 by omega)]
      rw [wrap_id (x := x * 65536) (by omega) (by omega), wrap_id (x := y * 256) (by omega) (by omega), wrap_id (x := x * 65536 + y * 256) (by omega) (by omega), wrap_id (x := x * 65536 + y * 256 + z) (by omega) (by omega)]
      have := tmod_range (x * 65536 + y * 256 + z) n (by omega) (by omega)
      exact ⟨_, _, _, rfl, ⟨this.1, fun _ => this.2⟩, a3, b3⟩

theorem l1Str_dr (l : List ByteArray) (hl : 0 < l.length) : Dr (fun b i h => spec_l1Str.f b i h l) (fun x => x ∈ l) := by
  intro b i h hb h0 h1
  obtain ⟨x, i1, e1, f1, p1, a1, b1⟩ := l1Below_dr (l.length : Int) b i h hb h0 h1
  have f1' : spec_l1Below.f b i h (l.length : Int) = some (x, i1, e1) := f1
  have hx := p1.2 (by omega)
  show ∃ x i' h', spec_l1Str.f b i h l = some (x, i', h') ∧ _
  unfold spec_l1Str.f
  rw [f1']
  simp only [Option.bind_some, if_pos p1.1, if_pos hx]
  refine ⟨_, _, _, rfl, ?_, a1, b1⟩
  have hn : x.toNat < l.length := by omega
  rw [rdOf, List.getD_eq_getElem?_getD, List.getElem?_eq_getElem hn]
  exact List.getElem_mem hn
theorem Dr.of_str {P : ByteArray → Prop} {l : List ByteArray} {f : List Int → Int → Int → Option (ByteArray × Int × Int)} (hf : ∀ b i h, f b i h = (spec_l1Str.f b i h l).bind fun t => some (t.1, t.2.1, t.2.2)) (hl : 0 < l.length) (hP : ∀ x ∈ l, P x) : Dr f P := by
  intro b i h hb h0 h1
  obtain ⟨x, i1, e1, f1, p1, a1, b1⟩ := l1Str_dr l hl b i h hb h0 h1
  have f1' : spec_l1Str.f b i h l = some (x, i1, e1) := f1
  rw [hf, f1']
  exact ⟨_, _, _, rfl, hP x p1, a1, b1⟩

theorem l1Text_dr : Dr spec_l1Text.f (fun x => x.size ≤ 30) := Dr.of_str (fun _ _ _ => rfl) (by decide) (by decide)

/-- byte classes -/
def plainC (c : Int) : Bool := decide (32 ≤ c) && decide (c ≤ 126)
def smallC (c : Int) : Bool := decide (97 ≤ c) && decide (c ≤ 122)
def digitC (c : Int) : Bool := decide (48 ≤ c) && decide (c ≤ 57)
def largeC (c : Int) : Bool := decide (65 ≤ c) && decide (c ≤ 90)

/-- the marks' names -/
def escC (c : Int) : List Int := if c = 38 then [38, 97, 109, 112, 59] else if c = 60 then [38, 108, 116, 59] else if c = 62 then [38, 103, 116, 59] else if c = 34 then [38, 113, 117, 111, 116, 59] else [c]
def escL (l : List Int) : List Int := l.flatMap escC
theorem escC_len (c : Int) : (escC c).length ≤ 6 := by
  unfold escC
  repeat' split
  all_goals simp
theorem impl_Escape_l0 {s : ByteArray} (hs : s.size ≤ 140737488351232) : ∀ (i : Nat) (x : ByteArray), x.size ≤ 6 * i → Ev (fun k => impl_Escape.l0 k s x (i : Int)) (strOfNums (bytesOf x ++ escL ((bytesOf s).drop i))) := by
  refine str_loop_st s (fun i x k => impl_Escape.l0 k s x (i : Int)) (fun i x r => strOfNums (bytesOf x ++ escL r)) (fun i x _ => x.size ≤ 6 * i) ?_ ?_ hs
  · intro i x _ hi
    apply ev_succ; simp only [impl_Escape.l0, if_neg (show ¬ (i : Int) < s.size by omega)]
    simpa [escL, strOfNums_bytesOf] using Ev.now x
  · intro i x c r hx h hb hi hw hw1 ih
    apply ev_succ
    have e1 := extract_one h
    have e1s : (s.extract i (i + 1)).size = 1 := by rw [size_len, e1]; rfl
    simp only [impl_Escape.l0, if_pos (show (i : Int) < s.size by omega), if_pos (show (0 : Int) ≤ i by omega), hb, hw1, if_pos (show x.size + 5 ≤ 9223372036854775807 by omega), if_pos (show x.size + 4 ≤ 9223372036854775807 by omega), if_pos (show x.size + 6 ≤ 9223372036854775807 by omega),
      if_pos (show (i : Int) ≤ ((i + 1 : Nat) : Int) by omega), if_pos (show ((i + 1 : Nat) : Int) ≤ s.size by omega), Int.toNat_natCast, e1s, if_pos (show x.size + 1 ≤ 9223372036854775807 by omega)]
    have fin : ∀ y : ByteArray, bytesOf y = escC c → Ev (fun k => impl_Escape.l0 k s (x ++ y) ((i + 1 : Nat) : Int)) (strOfNums (bytesOf x ++ escL (c :: r))) := by
      intro y hy
      have h6 := escC_len c
      have := ih (x ++ y) (by rw [ByteArray.size_append, size_len y, hy]; omega)
      rw [cat_ev hy] at this
      simpa [escL] using this
    refine ev_ite (fun h => fin _ ?_) (fun h => ev_ite (fun h0 => fin _ ?_) (fun h0 => ev_ite (fun h1 => fin _ ?_) (fun h1 => ev_ite (fun h2 => fin _ ?_) (fun h2 => fin _ ?_))))
    · simp [escC, h]; rfl
    · simp [escC, h0]; rfl
    · simp [escC, h1]; rfl
    · simp [escC, h2]; rfl
    · simpa [escC, h, h0, h1, h2] using e1
theorem impl_Escape_ev (s : ByteArray) (hs : s.size ≤ 140737488351232) : Ev (fun k => impl_Escape.f k s) (strOfNums (escL (bytesOf s))) :=
  impl_Escape_l0 hs 0 (⟨#[]⟩ : ByteArray) (Nat.le_refl 0)
theorem Escape_same : ∀ k (s x : ByteArray) (i : Int), spec_Escape.l0 k s x i = impl_Escape.l0 k s x i
  | 0, _, _, _ => rfl
  | k + 1, s, x, i => by simp only [spec_Escape.l0, impl_Escape.l0, Escape_same k]
theorem spec_Escape_ev (s : ByteArray) (hs : s.size ≤ 140737488351232) : Ev (fun k => spec_Escape.f k s) (strOfNums (escL (bytesOf s))) :=
  Ev.congr (fun k => Escape_same k s _ _) (impl_Escape_ev s hs)

theorem lit_iff (s : ByteArray) (l : List UInt8) : s.toList = l ↔ bytesOf s = l.map fun b => (b.toNat : Int) := by
  rw [Lib.toList_data]
  unfold bytesOf
  constructor
  · intro h; rw [h]
  · intro h; exact List.map_inj_right (fun x y hxy => UInt8.toNat_inj.mp (by omega)) |>.mp h
theorem indexByte_mem : ∀ (l : List UInt8) (c : UInt8), 0 ≤ Lib.indexByte l c ↔ c ∈ l
  | [], c => by simp [Lib.indexByte]
  | b :: l, c => by
    have ih := indexByte_mem l c
    have hg := Lib.indexByte_ge l c
    simp only [Lib.indexByte]
    by_cases h : b = c
    · subst h; simp
    · have h' : (b == c) = false := by simpa using h
      have h2 : ¬ c = b := fun e => h e.symm
      rw [h']
      simp only [Bool.false_eq_true, if_false, List.mem_cons, h2, false_or, ← ih]
      by_cases q : Lib.indexByte l c = -1
      · simp [q]
      · have : (Lib.indexByte l c == -1) = false := by simpa using q
        rw [this]; simp only [Bool.false_eq_true, if_false]; omega
theorem mem_bytes (s : ByteArray) (c : UInt8) : c ∈ s.data.toList ↔ (c.toNat : Int) ∈ bytesOf s := by
  unfold bytesOf
  rw [List.mem_map]
  constructor
  · intro h; exact ⟨c, h, rfl⟩
  · rintro ⟨d, hd, he⟩
    have : d = c := UInt8.toNat_inj.mp (by omega)
    rw [← this]; exact hd

/-- what stands ahead of a byte, and from it on -/
def tkC (c : Int) (r : List Int) : List Int := r.takeWhile fun x => decide (x ≠ c)
def drC (c : Int) (r : List Int) : List Int := r.dropWhile fun x => decide (x ≠ c)
theorem tk_dr (c : Int) (r : List Int) : tkC c r ++ drC c r = r := List.takeWhile_append_dropWhile
theorem tkC_no (c : Int) : ∀ r, c ∉ tkC c r
  | [] => by simp [tkC]
  | x :: r => by
    unfold tkC
    rw [List.takeWhile_cons]
    split
    · rename_i h
      have h2 := tkC_no c r
      unfold tkC at h2
      simp only [decide_eq_true_eq] at h
      simp only [List.mem_cons, not_or]
      exact ⟨fun e => h e.symm, h2⟩
    · simp
theorem drC_head {c : Int} {r : List Int} {a : Int} {u : List Int} (h : drC c r = a :: u) : a = c := by
  have := List.head_dropWhile_not (p := fun x : Int => decide (x ≠ c)) (l := r) (by unfold drC at h; rw [h]; simp)
  unfold drC at h
  simp only [h, List.head_cons] at this
  simpa using this
theorem drC_len (c : Int) (r : List Int) : (tkC c r).length + (drC c r).length = r.length := by rw [← List.length_append, tk_dr]
theorem index_one (c : UInt8) : ∀ l : List UInt8, Lib.index l [c] = if (l.dropWhile fun x => decide (x ≠ c)) = [] then -1 else ((l.takeWhile fun x => decide (x ≠ c)).length : Int)
  | [] => rfl
  | b :: l => by
    have ih := index_one c l
    rw [Lib.index]
    simp only [List.isPrefixOf, Bool.and_true]
    by_cases q : b = c
    · subst q
      simp
    · have q1 : ¬ c = b := fun e => q e.symm
      have q2 : (c == b) = false := by simpa using q1
      rw [q2, if_neg (by simp), ih, List.dropWhile_cons, List.takeWhile_cons]
      simp only [ne_eq, q, not_false_iff, decide_true, if_true]
      by_cases q3 : (l.dropWhile fun x => decide (¬ x = c)) = []
      · simp only [ne_eq, q3, if_true]; rfl
      · simp only [ne_eq, if_neg q3]
        rw [if_neg (by simp only [beq_iff_eq]; omega)]
        simp
theorem cut_u8 (c : UInt8) (l : List UInt8) : Lib.cut l [c] = (l.takeWhile (fun x => decide (x ≠ c)), (l.dropWhile fun x => decide (x ≠ c)).tail, decide ((l.dropWhile fun x => decide (x ≠ c)) ≠ [])) := by
  have ha := List.takeWhile_append_dropWhile (p := fun x => decide (x ≠ c)) (l := l)
  unfold Lib.cut
  rw [index_one]
  generalize (l.takeWhile fun x => decide (x ≠ c)) = t at ha
  generalize (l.dropWhile fun x => decide (x ≠ c)) = d at ha
  by_cases q : d = []
  · subst q
    rw [List.append_nil] at ha
    rw [if_pos rfl, if_neg (by decide), ha]
    rfl
  · rw [if_neg q, if_pos (by omega)]
    subst ha
    simp only [Int.toNat_natCast, List.length_cons, List.length_nil, List.take_left, Nat.zero_add, decide_eq_true q, ne_eq, not_false_iff]
    cases d with
    | nil => exact absurd rfl q
    | cons x u =>
      refine Prod.ext rfl (Prod.ext ?_ rfl)
      show List.drop (t.length + 1) (t ++ x :: u) = u
      rw [show t ++ x :: u = (t ++ [x]) ++ u by simp]
      exact List.drop_left' (by simp)
theorem map_tk (c : UInt8) (l : List UInt8) : (l.takeWhile fun x => decide (x ≠ c)).map (fun b => (b.toNat : Int)) = tkC (c.toNat : Int) (l.map fun b => (b.toNat : Int)) := by
  unfold tkC
  rw [List.takeWhile_map]
  congr 2
  funext x
  simp only [Function.comp, decide_eq_decide]
  constructor
  · intro h e; exact h (UInt8.toNat_inj.1 (by omega))
  · intro h e; exact h (by rw [e])
theorem map_dr (c : UInt8) (l : List UInt8) : (l.dropWhile fun x => decide (x ≠ c)).map (fun b => (b.toNat : Int)) = drC (c.toNat : Int) (l.map fun b => (b.toNat : Int)) := by
  unfold drC
  rw [List.dropWhile_map]
  congr 2
  funext x
  simp only [Function.comp, decide_eq_decide]
  constructor
  · intro h e; exact h (UInt8.toNat_inj.1 (by omega))
  · intro h e; exact h (by rw [e])
theorem cut_one (s : ByteArray) (c : UInt8) (h : s.size < 4294967281) : ∃ a b, strings_Cut.f s (⟨#[c]⟩ : ByteArray) = some (a, b, decide (drC (c.toNat : Int) (bytesOf s) ≠ [])) ∧ bytesOf a = tkC (c.toNat : Int) (bytesOf s) ∧ bytesOf b = (drC (c.toNat : Int) (bytesOf s)).tail := by
  have hb : bytesOf s = s.data.toList.map fun b => (b.toNat : Int) := rfl
  refine ⟨⟨(Lib.cut s.data.toList [c]).1.toArray⟩, ⟨(Lib.cut s.data.toList [c]).2.1.toArray⟩, ?_, ?_, ?_⟩
  · unfold strings_Cut.f
    rw [if_pos h, show ((⟨#[c]⟩ : ByteArray).data.toList) = [c] from rfl, cut_u8]
    rw [hb, ← map_dr]
    simp only [ne_eq, List.map_eq_nil_iff]
  · rw [bytesOf_mk, cut_u8, map_tk, hb]
  · rw [bytesOf_mk, cut_u8]
    show (List.dropWhile _ _).tail.map _ = _
    rw [List.map_tail, map_dr]
    rfl
theorem contains_one (s : ByteArray) (c : UInt8) : strings_Contains.f s (⟨#[c]⟩ : ByteArray) = some (decb ((c.toNat : Int) ∈ bytesOf s)) := by
  have e0 : strings_Contains.f s (⟨#[c]⟩ : ByteArray) = some (decide (0 ≤ Lib.indexByte s.data.toList c)) := rfl
  rw [e0]
  congr 1
  have hb : bytesOf s = s.data.toList.map fun b => (b.toNat : Int) := rfl
  rw [Bool.eq_iff_iff, decide_eq_true_eq, decb_iff, indexByte_mem, hb, List.mem_map]
  constructor
  · intro h; exact ⟨c, h, rfl⟩
  · rintro ⟨b, h, e⟩
    rwa [UInt8.toNat_inj.1 (show b.toNat = c.toNat by omega)] at h

/-- the digits of a number, as bytes -/
def numD (u : Nat) : List Int := (Lib.decDigits u).map fun b => (b.toNat : Int)
theorem numD_step (u : Nat) (h : 9 < u) : numD u = numD (u / 10) ++ [48 + ((u % 10 : Nat) : Int)] := by
  unfold numD
  rw [Lib.decDigits, dif_neg (by omega), List.map_append]
  congr 1
  simp only [List.map_cons, List.map_nil, List.cons.injEq, and_true]
  rw [show (UInt8.ofNat (48 + u % 10)).toNat = 48 + u % 10 from by simp; omega]
  omega
theorem numD_low (u : Nat) (h : u ≤ 9) : numD u = [48 + (u : Int)] := by
  unfold numD
  rw [Lib.decDigits, dif_pos (by omega)]
  simp only [List.map_cons, List.map_nil, List.cons.injEq, and_true]
  rw [show (UInt8.ofNat (48 + u)).toNat = 48 + u from by simp; omega]
  omega
theorem numD_range (u : Nat) : ∀ x ∈ numD u, 0 ≤ x ∧ x < 256 := by
  intro x hx
  obtain ⟨b, _, rfl⟩ := List.mem_map.1 hx
  have := b.toNat_lt
  omega
theorem strNum (u : Nat) : (⟨(Lib.decDigits u).toArray⟩ : ByteArray) = strOfNums (numD u) := by
  apply bytesOf_inj
  rw [bytesOf_strOfNums _ (numD_range u), bytesOf_mk]; rfl
theorem numD_len : ∀ (k u : Nat), u < 10 ^ (k + 1) → (numD u).length ≤ k + 1
  | 0, u, h => by rw [numD_low u (by simpa using Nat.le_of_lt_succ h)]; simp
  | k + 1, u, h => by
    rcases Nat.lt_or_ge 9 u with h9 | h9
    · rw [numD_step u h9, List.length_append]
      have := numD_len k (u / 10) (by rw [Nat.pow_succ] at h; omega)
      simp; omega
    · rw [numD_low u h9]; simp
/-- one digit in front -/
theorem digit_byte (u : Nat) (hu : u ≤ 9223372036854775807) : wrap64 (48 + Int.tmod (u : Int) 10) % 256 = 48 + ((u % 10 : Nat) : Int) := by
  have e : Int.tmod (u : Int) 10 = ((u % 10 : Nat) : Int) := by rw [Int.tmod_eq_emod_of_nonneg (by omega)]; omega
  rw [e, wrap_id (by omega) (by omega)]
  omega
theorem tdiv_ten (u : Nat) (hu : u ≤ 9223372036854775807) : wrap64 (Int.tdiv (u : Int) 10) = ((u / 10 : Nat) : Int) := by
  rw [Int.tdiv_eq_ediv_of_nonneg (by omega), wrap_id (by omega) (by omega)]
  omega

/-- digits, read as a number -/
def decL : Int → List Int → Option Int
  | a, [] => some a
  | a, c :: r => if 48 ≤ c ∧ c ≤ 57 then decL (a * 10 + (c - 48)) r else none
theorem decL_from : ∀ (l : List UInt8) (acc : Nat), decL (acc : Int) (l.map fun b => (b.toNat : Int)) = (Lib.decFrom acc l).map fun m => (m : Int)
  | [], _ => rfl
  | c :: r, acc => by
    simp only [List.map_cons, decL, Lib.decFrom, Lib.digitVal]
    by_cases h : 48 ≤ c.toNat ∧ c.toNat ≤ 57
    · rw [if_pos h, if_pos (by omega), ← decL_from r]
      congr 1; omega
    · rw [if_neg h, if_neg (by omega)]; rfl
theorem decL_snoc : ∀ (l : List Int) (a c : Int), decL a (l ++ [c]) = (decL a l).bind fun m => if 48 ≤ c ∧ c ≤ 57 then some (m * 10 + (c - 48)) else none
  | [], a, c => by simp [decL]
  | d :: r, a, c => by
    simp only [List.cons_append, decL]
    split
    · exact decL_snoc r _ c
    · rfl
theorem decL_le : ∀ (l : List Int) (a m : Int), 0 ≤ a → decL a l = some m → 0 ≤ m ∧ m < (a + 1) * 10 ^ l.length
  | [], a, m, ha, h => by simp only [decL, Option.some.injEq] at h; subst h; simp; omega
  | c :: r, a, m, ha, h => by
    simp only [decL] at h
    split at h
    · have := decL_le r _ m (by omega) h
      refine ⟨this.1, Int.lt_of_lt_of_le this.2 ?_⟩
      rw [List.length_cons, Int.pow_succ, Int.mul_comm (10 ^ r.length) 10, ← Int.mul_assoc]
      exact Int.mul_le_mul_of_nonneg_right (by omega) (Int.le_of_lt (Int.pow_pos (by decide)))
    · cases h
theorem numD_ne (u : Nat) : numD u ≠ [] := by
  rcases Nat.lt_or_ge 9 u with h9 | h9
  · rw [numD_step u h9]; simp
  · rw [numD_low u h9]; simp
theorem decL_numD (u : Nat) : decL 0 (numD u) = some (u : Int) := by
  induction u using Nat.strongRecOn with
  | _ u ih =>
    rcases Nat.lt_or_ge 9 u with h9 | h9
    · rw [numD_step u h9, decL_snoc, ih (u / 10) (by omega), Option.bind_some, if_pos (by omega)]
      congr 1; omega
    · rw [numD_low u h9]
      simp only [decL]
      rw [if_pos (by omega)]
      congr 1; omega
theorem numD_48 (u : Nat) : ∀ r, numD u = 48 :: r → u = 0 := by
  induction u using Nat.strongRecOn with
  | _ u ih =>
    intro r h
    rcases Nat.lt_or_ge 9 u with h9 | h9
    · rw [numD_step u h9] at h
      cases hd : numD (u / 10) with
      | nil => have := numD_ne (u / 10); exact absurd hd this
      | cons c t =>
        rw [hd, List.cons_append] at h
        obtain ⟨rfl, _⟩ := List.cons.inj h
        have := ih (u / 10) (by omega) t hd
        omega
    · rw [numD_low u h9] at h
      have := (List.cons.inj h).1
      omega
theorem numD_dig (u : Nat) : ∀ c ∈ numD u, 48 ≤ c ∧ c ≤ 57 := by
  induction u using Nat.strongRecOn with
  | _ u ih =>
    intro c h
    rcases Nat.lt_or_ge 9 u with h9 | h9
    · rw [numD_step u h9, List.mem_append] at h
      rcases h with h | h
      · exact ih (u / 10) (by omega) c h
      · simp at h; omega
    · rw [numD_low u h9] at h
      simp at h; omega
/-- what digits without a 0 ahead spell has these digits -/
theorem numD_dec : ∀ (n : Nat) (l : List Int) (m : Int), l.length = n + 1 → decL 0 l = some m → (n = 0 ∨ ∀ r, l ≠ 48 :: r) → numD m.toNat = l
  | 0, l, m, hl, h, _ => by
    obtain ⟨c, rfl⟩ := List.length_eq_one_iff.1 hl
    simp only [decL] at h
    split at h
    · obtain rfl := Option.some.inj h
      rw [numD_low _ (by omega)]
      congr 1; omega
    · cases h
  | n + 1, l, m, hl, h, h0 => by
    replace h0 : ∀ r, l ≠ 48 :: r := by rcases h0 with h0 | h0; · omega
                                        · exact h0
    obtain ⟨l', c, rfl⟩ : ∃ l' c, l = l' ++ [c] := ⟨l.dropLast, l.getLast (by intro e; subst e; simp at hl), (List.dropLast_concat_getLast _).symm⟩
    have hl' : l'.length = n + 1 := by simp at hl; omega
    rw [decL_snoc] at h
    obtain ⟨m', hm', h⟩ := Option.bind_eq_some_iff.1 h
    split at h
    · rename_i hc
      obtain rfl := Option.some.inj h
      have hb := decL_le l' 0 m' (by omega) hm'
      have h0' : ∀ r, l' ≠ 48 :: r := fun r e => h0 (r ++ [c]) (by rw [e]; rfl)
      have ih := numD_dec n l' m' hl' hm' (.inr h0')
      have h1 : 0 < m'.toNat := by
        rcases Nat.eq_zero_or_pos m'.toNat with e | e
        · rw [e, numD_low 0 (by omega)] at ih
          exact absurd ih.symm (h0' [])
        · exact e
      rw [numD_step _ (by omega), show (m' * 10 + (c - 48)).toNat / 10 = m'.toNat from by omega, ih]
      congr 2; omega
    · cases h

theorem l1In_eq (c a b : Int) : spec_l1In.f c a b = some (decide (a ≤ c) && decide (c ≤ b)) := by
  unfold spec_l1In.f; split <;> simp [*] <;> omega

theorem l1Digit_eq (c : Int) (h : wrap64 c = c) : spec_l1Digit.f c = some (digitC c) := by
  unfold spec_l1Digit.f; rw [h, l1In_eq]; rfl

theorem impl_NumText_eq (n : Int) (hn : n ≤ 9223372036854775807) : impl_NumText.f n = some (strOfNums (numD n.toNat)) := by
  have e : mx n 0 = ((n.toNat : Nat) : Int) := by unfold mx; split <;> omega
  unfold impl_NumText.f
  rw [e]
  unfold strconv_Itoa.f
  rw [if_pos (by omega), Option.bind_some]
  unfold Lib.itoa
  rw [if_neg (by omega), Int.toNat_natCast, strNum]

/-- a number of at most seven digits, no 0 ahead, not above a bound -/
def pnum (s : ByteArray) (most : Int) : Int × Bool :=
  match decL 0 (bytesOf s) with
  | none => (0, false)
  | some n => if 1 ≤ s.size ∧ s.size ≤ 7 ∧ ¬ (1 < s.size ∧ (bytesOf s).head? = some 48) ∧ n ≤ most then (n, true) else (0, false)
theorem pnum_yes (s : ByteArray) (most : Int) (u : Nat) (hu : bytesOf s = numD u) (h7 : s.size ≤ 7) (hm : (u : Int) ≤ most) : pnum s most = ((u : Int), true) := by
  unfold pnum
  rw [hu, decL_numD]
  have hne := numD_ne u
  have hl : s.size = (numD u).length := by rw [← hu, bytesOf_length]
  have h1 : 1 ≤ s.size := by
    rcases Nat.eq_zero_or_pos s.size with e | e
    · rw [e] at hl; exact absurd (List.length_eq_zero_iff.1 hl.symm) hne
    · exact e
  refine if_pos ⟨h1, h7, ?_, hm⟩
  rintro ⟨h2, h3⟩
  cases hd : numD u with
  | nil => exact hne hd
  | cons c r =>
    rw [hd] at h3 hl
    simp only [List.head?_cons, Option.some.injEq] at h3
    subst h3
    have := numD_48 u r hd
    subst this
    rw [numD_low 0 (by omega)] at hd
    obtain ⟨_, rfl⟩ := List.cons.inj hd
    simp at hl; omega
theorem pnum_no (s : ByteArray) (most : Int) (h : ∀ u : Nat, bytesOf s = numD u → s.size ≤ 7 → ¬ (u : Int) ≤ most) : pnum s most = (0, false) := by
  unfold pnum
  cases hd : decL 0 (bytesOf s) with
  | none => rfl
  | some n =>
    refine if_neg ?_
    rintro ⟨h1, h7, h0, hm⟩
    have hb := decL_le _ 0 n (by omega) hd
    have hl := bytesOf_length s
    have := numD_dec (s.size - 1) (bytesOf s) n (by omega) hd (by
      rcases Nat.eq_zero_or_pos (s.size - 1) with e | e
      · exact .inl e
      · refine .inr fun r hr => h0 ⟨by omega, by rw [hr]; rfl⟩)
    exact h n.toNat this.symm h7 (by omega)
theorem impl_ParseNum_eq (s : ByteArray) (most : Int) (hs : s.size ≤ 281474976710656) : impl_ParseNum.f s most = some (pnum s most) := by
  unfold impl_ParseNum.f
  rw [if_pos hs]
  have hbs : bytesOf s = s.data.toList.map fun b => (b.toNat : Int) := rfl
  by_cases hy : ∃ u : Nat, bytesOf s = numD u ∧ s.size ≤ 7 ∧ (u : Int) ≤ most
  · obtain ⟨u, hu, h7, hm⟩ := hy
    rw [pnum_yes s most u hu h7 hm]
    have hlen : s.data.toList.length ≤ 18 := by have := data_length s; omega
    have hdec : Lib.decFrom 0 s.data.toList = some u := by
      have h1 := decL_from s.data.toList 0
      rw [← hbs, hu, show ((0 : Nat) : Int) = 0 from rfl, decL_numD] at h1
      cases hd : Lib.decFrom 0 s.data.toList with
      | none => rw [hd] at h1; cases h1
      | some m => rw [hd] at h1; have h2 : (u : Int) = (m : Int) := Option.some.inj h1; congr 1; omega
    have hat : Lib.atoiAll s.data.toList = .ok (u : Int) := by
      cases hl : s.data.toList with
      | nil => rw [hl] at hbs; rw [hu] at hbs; exact absurd hbs (numD_ne u)
      | cons c r =>
        have hc : 48 ≤ (c.toNat : Int) ∧ (c.toNat : Int) ≤ 57 := numD_dig u _ (by rw [← hu, hbs, hl]; simp)
        rw [Lib.atoiAll_plain c r (by omega) (by omega), ← hl, Lib.signless_short hlen]
        unfold Lib.decNat
        rw [if_neg (by rw [hl]; simp), hdec]
        rfl
    have hn := numD_len 6 u
    have hlt : (u : Int) < 10000000 := by
      have := (decL_le _ 0 _ (by omega) (decL_numD u)).2
      rw [← hu, bytesOf_length] at this
      have h3 : (10 : Int) ^ s.size ≤ 10 ^ 7 := by
        have := Nat.pow_le_pow_right (n := 10) (by decide) h7
        exact_mod_cast this
      have e7 : (10 : Int) ^ 7 = 10000000 := by decide
      omega
    rw [hat]
    (try simp only [])
    rw [if_neg (by omega), if_neg (by omega), if_neg (by omega), impl_NumText_eq _ (by omega), Option.bind_some, Int.toNat_natCast]
    rw [if_pos]
    rw [← hu, strOfNums_bytesOf]
  · rw [pnum_no s most (fun u h1 h2 h3 => hy ⟨u, h1, h2, h3⟩)]
    cases hat : Lib.atoiAll s.data.toList with
    | range => rfl
    | ok v =>
      have hb := Lib.atoiAll_bounds hat
      (try simp only [])
      by_cases h1 : v < 0
      · rw [if_pos h1]
      by_cases h2 : most < v
      · rw [if_neg h1, if_pos h2]
      by_cases h3 : 7 < s.size
      · rw [if_neg h1, if_neg h2, if_pos h3]
      rw [if_neg h1, if_neg h2, if_neg h3, impl_NumText_eq _ hb.2, Option.bind_some]
      rw [if_neg]
      intro e
      refine hy ⟨v.toNat, ?_, by omega, by omega⟩
      have : strOfNums (numD v.toNat) = s := (toList_iff _ _).1 e
      rw [← this, bytesOf_strOfNums _ (numD_range _)]
    | _ => rfl
def pnFin (s : ByteArray) (most n : Int) : Int × Bool := if 1 ≤ s.size ∧ s.size ≤ 7 ∧ ¬ (1 < s.size ∧ (bytesOf s).head? = some 48) ∧ n ≤ most then (n, true) else (0, false)
def pnRest (s : ByteArray) (most n : Int) (l : List Int) : Int × Bool := match decL n l with
  | none => (0, false)
  | some m => pnFin s most m
theorem pnFin_long (s : ByteArray) (most n : Int) (h : 7 < s.size) : pnFin s most n = (0, false) := by
  unfold pnFin; rw [if_neg (by omega)]
theorem pnRest_long (s : ByteArray) (most n : Int) (l : List Int) (h : 7 < s.size) : pnRest s most n l = (0, false) := by
  unfold pnRest
  cases decL n l with
  | none => rfl
  | some m => exact pnFin_long s most m h
theorem head_bt (s : ByteArray) (h : 0 < s.size) : (bytesOf s).head? = some (bt s 0) := by
  cases hb : bytesOf s with
  | nil => have := bytesOf_length s; rw [hb] at this; simp at this; omega
  | cons c r =>
    have := (bt_drop (s := s) (i := 0) (by rw [List.drop_zero]; exact hb)).1
    rw [show ((0 : Nat) : Int) = 0 from rfl] at this
    rw [this]; rfl
theorem spec_ParseNum_j1 (s : ByteArray) (most n i : Int) : Ev (fun k => spec_ParseNum.j1 k s most n i false) (pnFin s most n) := by
  apply ev_succ
  simp only [spec_ParseNum.j1, Bool.false_eq_true, if_false, l1In_eq, Option.bind_some]
  refine ev_iteB (fun q => ?_) (fun q => ?_)
  · simp only [Bool.and_eq_true, decide_eq_true_eq] at q
    refine ev_ite (fun q1 => ?_) (fun q1 => ?_)
    · rw [if_pos (show (0 : Int) < (s.size : Int) by omega)]
      have hb := head_bt s (by omega)
      by_cases q2 : bt s 0 = 48
      · rw [if_pos q2]
        have : pnFin s most n = (0, false) := by
          unfold pnFin
          rw [hb, q2, if_neg (fun h => h.2.2.1 ⟨by omega, rfl⟩)]
        rw [this]; exact Ev.now _
      · rw [if_neg q2]
        have hq : ¬ (1 < s.size ∧ (bytesOf s).head? = some 48) := fun h => q2 (by have := h.2; rw [hb] at this; exact Option.some.inj this)
        by_cases q3 : n > most
        · rw [if_pos q3]
          have : pnFin s most n = (0, false) := by unfold pnFin; rw [if_neg (by omega)]
          rw [this]; exact Ev.now _
        · rw [if_neg q3]
          have : pnFin s most n = (n, true) := by unfold pnFin; rw [if_pos ⟨by omega, by omega, hq, by omega⟩]
          rw [this]; exact Ev.now _
    · by_cases q3 : n > most
      · rw [if_pos q3]
        have : pnFin s most n = (0, false) := by unfold pnFin; rw [if_neg (by omega)]
        rw [this]; exact Ev.now _
      · rw [if_neg q3]
        have : pnFin s most n = (n, true) := by unfold pnFin; rw [if_pos ⟨by omega, by omega, fun h => by omega, by omega⟩]
        rw [this]; exact Ev.now _
  · have : pnFin s most n = (0, false) := by
      unfold pnFin
      rw [if_neg]
      rintro ⟨h1, h2, _⟩
      rw [decide_eq_true (by omega), decide_eq_true (by omega)] at q
      cases q
    rw [this]; exact Ev.now _
theorem spec_ParseNum_ev (s : ByteArray) (most : Int) (hs : s.size ≤ 140737488351232) : Ev (fun k => spec_ParseNum.f k s most) (pnum s most) := by
  have := str_loop_st s (fun i n k => spec_ParseNum.l0 k s most n (i : Int)) (fun i n r => pnRest s most n r) (fun i n r => i ≤ 8 ∧ 0 ≤ n ∧ n < 10 ^ i ∧ i + r.length = s.size) ?_ ?_ hs 0 0 ⟨by omega, by omega, by simp, by simp [bytesOf_length]⟩
  · exact this
  · intro i n ⟨h8, h0, hn, hl⟩ hi
    apply ev_succ
    simp only [spec_ParseNum.l0, if_neg (show ¬ (i : Int) < s.size by omega)]
    exact spec_ParseNum_j1 s most n i
  · intro i n c r ⟨h8, h0, hn, hl⟩ h hb hi hw hw1 ih
    have hc := bytesOf_range s c (List.mem_of_mem_drop (by rw [h]; simp : c ∈ (bytesOf s).drop i))
    apply ev_succ
    simp only [spec_ParseNum.l0, if_pos (show (i : Int) < s.size by omega)]
    rcases Nat.lt_or_ge i 8 with q8 | q8
    · rw [decide_eq_true (by omega)]
      apply ev_succ
      simp only [spec_ParseNum.j1, if_true, if_pos (show (0 : Int) ≤ (i : Int) by omega), if_pos (show (i : Int) < s.size by omega), hb, l1Digit_eq c hw, Option.bind_some, hw1]
      have hp : (10 : Int) ^ i ≤ 10 ^ 7 := by
        have := Nat.pow_le_pow_right (n := 10) (by decide) (show i ≤ 7 by omega)
        exact_mod_cast this
      have e7 : (10 : Int) ^ 7 = 10000000 := by decide
      by_cases qd : 48 ≤ c ∧ c ≤ 57
      · have hd : digitC c = true := by simp only [digitC, Bool.and_eq_true, decide_eq_true_eq]; exact qd
        simp only [hd, if_true]
        rw [wrap_id (x := n * 10) (by omega) (by omega), show (c - 48) % 256 = c - 48 by omega, wrap_id (x := n * 10 + (c - 48)) (by omega) (by omega)]
        have := ih (n * 10 + (c - 48)) ⟨by omega, by omega, by rw [Int.pow_succ]; omega, by simp at hl ⊢; omega⟩
        have e : pnRest s most n (c :: r) = pnRest s most (n * 10 + (c - 48)) r := by
          unfold pnRest; simp only [decL, if_pos qd]
        rw [e]; exact this
      · have hd : digitC c = false := by rw [← Bool.not_eq_true]; simp only [digitC, Bool.and_eq_true, decide_eq_true_eq]; exact qd
        simp only [hd, Bool.false_eq_true, if_false]
        have e : pnRest s most n (c :: r) = (0, false) := by
          unfold pnRest; simp only [decL, if_neg qd]
        rw [e]; exact Ev.now _
    · rw [decide_eq_false (by omega), pnRest_long s most n (c :: r) (by simp at hl; omega)]
      have := spec_ParseNum_j1 s most n i
      rw [pnFin_long s most n (by simp at hl; omega)] at this
      exact this

/-- the byte that a name stands for; -1: none -/
def entB (l : List Int) : Int :=
  if l = [97, 109, 112] then 38 else if l = [108, 116] then 60 else if l = [103, 116] then 62 else if l = [113, 117, 111, 116] then 34 else if l = [97, 112, 111, 115] then 39 else
  match l with
  | [] => -1
  | c :: r => if c = 35 ∧ (pnum (strOfNums r) 126).2 = true ∧ 32 ≤ (pnum (strOfNums r) 126).1 then (pnum (strOfNums r) 126).1 else -1
theorem pnum_bound (s : ByteArray) (most : Int) (h : (pnum s most).2 = true) : 0 ≤ (pnum s most).1 ∧ (pnum s most).1 ≤ most ∧ ∀ c ∈ bytesOf s, 48 ≤ c ∧ c ≤ 57 := by
  unfold pnum at *
  cases hd : decL 0 (bytesOf s) with
  | none => rw [hd] at h; cases h
  | some n =>
    rw [hd] at h
    simp only [] at h ⊢
    split at h
    · rename_i hq
      rw [if_pos hq]
      refine ⟨(decL_le _ 0 n (by omega) hd).1, hq.2.2.2, ?_⟩
      have key : ∀ (l : List Int) (a m : Int), decL a l = some m → ∀ c ∈ l, 48 ≤ c ∧ c ≤ 57 := by
        intro l
        induction l with
        | nil => intro a m _ c hc; cases hc
        | cons d r ih =>
          intro a m hm c hc
          simp only [decL] at hm
          split at hm
          · rename_i hd
            rcases List.mem_cons.1 hc with rfl | hc
            · exact hd
            · exact ih _ m hm c hc
          · cases hm
      exact key _ 0 n hd
    · cases h
theorem entB_range (l : List Int) : -1 ≤ entB l ∧ entB l ≤ 126 := by
  unfold entB
  repeat' split
  all_goals first | omega | skip
  rename_i h
  have := pnum_bound _ _ h.2.1
  omega
theorem entB_60 (l : List Int) (hr : ∀ x ∈ l, 0 ≤ x ∧ x < 256) (h : 0 ≤ entB l) : (60 : Int) ∉ l := by
  unfold entB at h
  split at h
  · rename_i e; subst e; decide
  split at h
  · rename_i e; subst e; decide
  split at h
  · rename_i e; subst e; decide
  split at h
  · rename_i e; subst e; decide
  split at h
  · rename_i e; subst e; decide
  cases l with
  | nil => simp
  | cons c r =>
    simp only [] at h
    split at h
    · rename_i hq
      have hb := (pnum_bound _ _ hq.2.1).2.2
      rw [bytesOf_strOfNums _ (fun x hx => hr x (by simp [hx]))] at hb
      intro hm
      rcases List.mem_cons.1 hm with e | hm
      · omega
      · have := hb _ hm; omega
    · omega
theorem lits5 (s : ByteArray) : (s.toList = ([97, 109, 112] : List UInt8) ↔ bytesOf s = [97, 109, 112]) ∧ (s.toList = ([108, 116] : List UInt8) ↔ bytesOf s = [108, 116]) ∧ (s.toList = ([103, 116] : List UInt8) ↔ bytesOf s = [103, 116]) ∧ (s.toList = ([113, 117, 111, 116] : List UInt8) ↔ bytesOf s = [113, 117, 111, 116]) ∧ (s.toList = ([97, 112, 111, 115] : List UInt8) ↔ bytesOf s = [97, 112, 111, 115]) :=
  ⟨lit_iff s _, lit_iff s _, lit_iff s _, lit_iff s _, lit_iff s _⟩
theorem spec_l7Entity_ev (s : ByteArray) (hs : s.size ≤ 1048576) : Ev (fun k => spec_l7Entity.f k s) (entB (bytesOf s)) := by
  obtain ⟨e1, e2, e3, e4, e5⟩ := lits5 s
  unfold spec_l7Entity.f entB
  refine ev_ite (fun q => ?_) (fun q => ?_)
  · rw [if_pos (e1.1 q)]; exact Ev.now _
  rw [if_neg (fun h => q (e1.2 h))]
  refine ev_ite (fun q => ?_) (fun q => ?_)
  · rw [if_pos (e2.1 q)]; exact Ev.now _
  rw [if_neg (fun h => q (e2.2 h))]
  refine ev_ite (fun q => ?_) (fun q => ?_)
  · rw [if_pos (e3.1 q)]; exact Ev.now _
  rw [if_neg (fun h => q (e3.2 h))]
  refine ev_ite (fun q => ?_) (fun q => ?_)
  · rw [if_pos (e4.1 q)]; exact Ev.now _
  rw [if_neg (fun h => q (e4.2 h))]
  refine ev_ite (fun q => ?_) (fun q => ?_)
  · rw [if_pos (e5.1 q)]; exact Ev.now _
  rw [if_neg (fun h => q (e5.2 h))]
  have hl := bytesOf_length s
  have hf : Ev (fun k => spec_l7Entity.j0 k s false) (-1 : Int) := by
    apply ev_succ; simp only [spec_l7Entity.j0, Bool.false_eq_true, if_false]; exact Ev.now _
  have he := bytesOf_extract s 1 s.size
  rw [List.take_of_length_le (by omega)] at he
  cases hb : bytesOf s with
  | nil =>
    rw [hb] at hl
    simp only [List.length_nil] at hl
    simp only [if_neg (show ¬ (s.size : Int) > 1 by omega)]
    exact hf
  | cons c r =>
    rw [hb] at hl he
    simp only [List.drop_succ_cons, List.drop_zero] at he
    have hbt : bt s 0 = c := (bt_drop (s := s) (i := 0) (by rw [List.drop_zero]; exact hb)).1
    have hr : strOfNums r = s.extract 1 s.size := by rw [← he, strOfNums_bytesOf]
    show Ev _ (if c = 35 ∧ (pnum (strOfNums r) 126).2 = true ∧ 32 ≤ (pnum (strOfNums r) 126).1 then (pnum (strOfNums r) 126).1 else -1)
    rw [hr]
    simp only [List.length_cons] at hl
    refine ev_ite (fun q => ?_) (fun q => ?_)
    · simp only [if_pos (show (0 : Int) < (s.size : Int) by omega), hbt]
      by_cases q1 : c = 35
      · rw [beq_iff_eq.2 q1]
        apply ev_succ
        simp only [spec_l7Entity.j0, if_true, if_pos (show (1 : Int) ≤ (s.size : Int) by omega)]
        have hz : (s.extract 1 s.size).size ≤ s.size := by rw [← bytesOf_length, he]; omega
        refine Ev.bind (spec_ParseNum_ev (s.extract 1 s.size) 126 (by omega)) ?_
        refine ev_iteB (fun q2 => ?_) (fun q2 => ?_)
        · refine ev_ite (fun q3 => ?_) (fun q3 => ?_)
          · rw [if_pos ⟨q1, q2, q3⟩]; exact Ev.now _
          · rw [if_neg (fun h => q3 h.2.2)]; exact Ev.now _
        · rw [if_neg (fun h => by rw [q2] at h; exact absurd h.2.1 (by decide))]; exact Ev.now _
      · rw [if_neg (fun h => q1 h.1), show (c == (35 : Int)) = false from by simpa using q1]
        exact hf
    · have hr0 : r = [] := List.length_eq_zero_iff.1 (by omega)
      have : pnum (s.extract 1 s.size) 126 = (0, false) := by
        unfold pnum; rw [he, hr0]
        simp only [decL]
        rw [if_neg]
        have : (s.extract 1 s.size).size = 0 := by rw [← bytesOf_length, he, hr0]; rfl
        omega
      rw [this, if_neg (fun h => absurd h.2.1 (by decide))]
      exact hf
theorem impl_named_eq (s : ByteArray) (hs : s.size ≤ 1048576) : ∃ t, impl_named.f s = some (t, decide (0 ≤ entB (bytesOf s))) ∧ (0 ≤ entB (bytesOf s) → bytesOf t = [entB (bytesOf s)]) := by
  obtain ⟨e1, e2, e3, e4, e5⟩ := lits5 s
  unfold impl_named.f entB
  by_cases q : s.toList = ([97, 109, 112] : List UInt8)
  · rw [if_pos q, if_pos (e1.1 q)]; exact ⟨_, rfl, fun _ => rfl⟩
  rw [if_neg q, if_neg (fun h => q (e1.2 h))]; clear q
  by_cases q : s.toList = ([108, 116] : List UInt8)
  · rw [if_pos q, if_pos (e2.1 q)]; exact ⟨_, rfl, fun _ => rfl⟩
  rw [if_neg q, if_neg (fun h => q (e2.2 h))]; clear q
  by_cases q : s.toList = ([103, 116] : List UInt8)
  · rw [if_pos q, if_pos (e3.1 q)]; exact ⟨_, rfl, fun _ => rfl⟩
  rw [if_neg q, if_neg (fun h => q (e3.2 h))]; clear q
  by_cases q : s.toList = ([113, 117, 111, 116] : List UInt8)
  · rw [if_pos q, if_pos (e4.1 q)]; exact ⟨_, rfl, fun _ => rfl⟩
  rw [if_neg q, if_neg (fun h => q (e4.2 h))]; clear q
  by_cases q : s.toList = ([97, 112, 111, 115] : List UInt8)
  · rw [if_pos q, if_pos (e5.1 q)]; exact ⟨_, rfl, fun _ => rfl⟩
  rw [if_neg q, if_neg (fun h => q (e5.2 h))]; clear q
  have hbs : bytesOf s = s.data.toList.map fun b => (b.toNat : Int) := rfl
  have hc : strings_CutPrefix.f s (⟨#[35]⟩ : ByteArray) = some (⟨(Lib.trimPrefix s.data.toList [35]).toArray⟩, Lib.hasPrefix s.data.toList [35]) := rfl
  have hlen := data_length s
  cases hd : s.data.toList with
  | nil =>
    have hb : bytesOf s = [] := by rw [hbs, hd]; rfl
    rw [hc, hd, hb]
    have hp := impl_ParseNum_eq ⟨(Lib.trimPrefix [] [35]).toArray⟩ 126 (by decide)
    simp only [Option.bind_some, hp]
    exact ⟨_, rfl, fun h => absurd h (by decide)⟩
  | cons c r =>
    have hb : bytesOf s = (c.toNat : Int) :: (r.map fun b => (b.toNat : Int)) := by rw [hbs, hd]; rfl
    rw [hc, hd, hb]
    have hz : ∀ l : List UInt8, (⟨l.toArray⟩ : ByteArray).size = l.length := fun l => by rw [← bytesOf_length, bytesOf_mk, List.length_map]
    by_cases q : c = 35
    · subst q
      have h1 : Lib.trimPrefix (35 :: r) [35] = r := by simp [Lib.trimPrefix, Lib.hasPrefix]
      have h2 : Lib.hasPrefix (35 :: r) [35] = true := by simp [Lib.hasPrefix]
      have hr : strOfNums (r.map fun b => (b.toNat : Int)) = ⟨r.toArray⟩ := by rw [← bytesOf_mk, strOfNums_bytesOf]
      rw [h1, h2]
      have hm : (match (((35 : UInt8).toNat : Nat) : Int) :: (r.map fun b => (b.toNat : Int)) with
        | [] => -1
        | c :: r => if c = 35 ∧ (pnum (strOfNums r) 126).2 = true ∧ 32 ≤ (pnum (strOfNums r) 126).1 then (pnum (strOfNums r) 126).1 else -1 : Int) = if (((35 : UInt8).toNat : Nat) : Int) = 35 ∧ (pnum ⟨r.toArray⟩ 126).2 = true ∧ 32 ≤ (pnum ⟨r.toArray⟩ 126).1 then (pnum ⟨r.toArray⟩ 126).1 else -1 := by
        show (if _ then _ else _ : Int) = _
        rw [hr]
      rw [hm]
      have hp := impl_ParseNum_eq ⟨r.toArray⟩ 126 (by rw [hz]; rw [hd] at hlen; simp at hlen; omega)
      simp only [Option.bind_some, hp, if_true]
      have hbd := pnum_bound (⟨r.toArray⟩ : ByteArray) 126
      generalize pnum (⟨r.toArray⟩ : ByteArray) 126 = x at hbd
      obtain ⟨n, b⟩ := x
      cases b with
      | false =>
        simp only [Bool.false_eq_true, if_false, false_and, and_false]
        exact ⟨_, rfl, fun h => absurd h (by decide)⟩
      | true =>
        have hbd := hbd rfl
        simp only [] at hbd
        simp only [if_true, true_and]
        have c35 : (((35 : UInt8).toNat : Nat) : Int) = 35 := rfl
        by_cases q1 : n < 32
        · rw [if_pos q1, if_neg (by omega)]
          exact ⟨_, rfl, fun h => absurd h (by decide)⟩
        · rw [if_neg q1, if_pos ⟨c35, by omega⟩, decide_eq_true (show (0 : Int) ≤ n by omega), show n % 256 = n by omega]
          exact ⟨_, rfl, fun _ => bytesOf_strOfNums _ (by intro x hx; simp at hx; omega)⟩
    · have h2 : Lib.hasPrefix (c :: r) [35] = false := by
        unfold Lib.hasPrefix
        simp only [List.isPrefixOf, Bool.and_true]
        rw [beq_eq_false_iff_ne]; exact fun e => q e.symm
      have h1 : Lib.trimPrefix (c :: r) [35] = c :: r := by rw [Lib.trimPrefix, h2]; rfl
      rw [h1, h2]
      have c35 : ¬ ((c.toNat : Nat) : Int) = 35 := fun e => q (UInt8.toNat_inj.1 (by show c.toNat = 35; omega))
      have hm : (match ((c.toNat : Nat) : Int) :: (r.map fun b => (b.toNat : Int)) with
        | [] => -1
        | c :: r => if c = 35 ∧ (pnum (strOfNums r) 126).2 = true ∧ 32 ≤ (pnum (strOfNums r) 126).1 then (pnum (strOfNums r) 126).1 else -1 : Int) = -1 := if_neg (fun h => c35 h.1)
      rw [hm]
      have hp := impl_ParseNum_eq ⟨(c :: r).toArray⟩ 126 (by rw [hz]; rw [hd] at hlen; omega)
      simp only [Option.bind_some, hp, Bool.false_eq_true, if_false]
      exact ⟨_, rfl, fun h => absurd h (by decide)⟩
theorem drC_tail_lt (c : Int) (r : List Int) : (drC c r).tail.length ≤ r.length := by
  have := drC_len c r
  rw [List.length_tail]; omega
/-- a text with its names read; none: it is not right -/
def un : List Int → List Int → Option (List Int)
  | [], out => some out
  | c :: r, out => if c = 60 then none else if c = 38 then (if drC 59 r = [] ∨ entB (tkC 59 r) < 0 then none else un (drC 59 r).tail (out ++ [entB (tkC 59 r)])) else un r (out ++ [c])
termination_by l => l.length
decreasing_by
  · have := drC_tail_lt 59 r; simp only [List.length_cons]; omega
  · simp only [List.length_cons]; omega
theorem un_nil (out : List Int) : un [] out = some out := by rw [un]
theorem un_cons (c : Int) (r out : List Int) : un (c :: r) out = if c = 60 then none else if c = 38 then (if drC 59 r = [] ∨ entB (tkC 59 r) < 0 then none else un (drC 59 r).tail (out ++ [entB (tkC 59 r)])) else un r (out ++ [c]) := by rw [un]
theorem un_front : ∀ (l r out : List Int), (60 : Int) ∉ l → (38 : Int) ∉ l → un (l ++ r) out = un r (out ++ l)
  | [], r, out, _, _ => by simp
  | c :: l, r, out, h1, h2 => by
    simp only [List.mem_cons, not_or] at h1 h2
    rw [List.cons_append, un_cons, if_neg (fun e => h1.1 e.symm), if_neg (fun e => h2.1 e.symm), un_front l r _ h1.2 h2.2, List.append_assoc]
    rfl
theorem un_60 : ∀ (n : Nat) (l out : List Int), l.length ≤ n → (∀ x ∈ l, 0 ≤ x ∧ x < 256) → (60 : Int) ∈ l → un l out = none
  | 0, l, out, hn, _, hm => by
    rw [List.length_eq_zero_iff.1 (by omega : l.length = 0)] at hm; cases hm
  | n + 1, [], out, hn, _, hm => by cases hm
  | n + 1, c :: r, out, hn, hr, hm => by
    rw [un_cons]
    have hr' : ∀ x ∈ r, 0 ≤ x ∧ x < 256 := fun x hx => hr x (by simp [hx])
    by_cases q : c = 60
    · rw [if_pos q]
    have hm' : (60 : Int) ∈ r := by
      rcases List.mem_cons.1 hm with e | h
      · exact absurd e.symm q
      · exact h
    rw [if_neg q]
    simp only [List.length_cons] at hn
    by_cases q1 : c = 38
    · rw [if_pos q1]
      split
      · rfl
      · rename_i hq
        have hd : drC 59 r ≠ [] := fun e => hq (.inl e)
        have he : 0 ≤ entB (tkC 59 r) := by
          rcases Int.lt_or_le (entB (tkC 59 r)) 0 with h | h
          · exact absurd (.inr h) hq
          · exact h
        have ht := tk_dr 59 r
        have hrt : ∀ x ∈ tkC 59 r, 0 ≤ x ∧ x < 256 := fun x hx => hr' x (by rw [← ht]; exact List.mem_append_left _ hx)
        have h60 := entB_60 _ hrt he
        have hl := drC_tail_lt 59 r
        refine un_60 n _ _ (by omega) (fun x hx => hr' x (by rw [← ht]; exact List.mem_append_right _ (List.mem_of_mem_tail hx))) ?_
        rw [← ht] at hm'
        rcases List.mem_append.1 hm' with h | h
        · exact absurd h h60
        · cases hdr : drC 59 r with
          | nil => exact absurd hdr hd
          | cons a u =>
            have ha := drC_head hdr
            rw [hdr] at h
            rcases List.mem_cons.1 h with e | h
            · omega
            · exact h
    · rw [if_neg q1]
      exact un_60 n r _ (by omega) hr' hm'
def resU : Option (List Int) → ByteArray × Bool
  | none => (⟨#[]⟩, false)
  | some o => (strOfNums o, true)
theorem spec_Unescape_l1 (s : ByteArray) (hs : s.size ≤ 1048576) (out : List Int) (i : Nat) : ∀ (n p : Nat) (v : ByteArray × Bool), s.size - p = n → p ≤ s.size → Ev (fun k => spec_Unescape.j2 k s out (i : Int) ((p + (tkC 59 ((bytesOf s).drop p)).length : Nat) : Int)) v → Ev (fun k => spec_Unescape.l1 k s out (i : Int) (p : Int)) v
  | 0, p, v, hn, hp, h => by
    apply ev_succ
    simp only [spec_Unescape.l1, if_neg (show ¬ (p : Int) < s.size by omega)]
    rw [List.drop_eq_nil_of_le (by rw [bytesOf_length]; omega)] at h
    exact h
  | n + 1, p, v, hn, hp, h => by
    have hl := bytesOf_length s
    cases hd : (bytesOf s).drop p with
    | nil => have := size_drop hd; omega
    | cons c r =>
      obtain ⟨hb, hi, hdr⟩ := bt_drop hd
      have hw : wrap64 ((p : Int) + 1) = ((p + 1 : Nat) : Int) := by rw [wrap_id (by omega) (by omega)]; omega
      apply ev_succ
      simp only [spec_Unescape.l1, if_pos (show (p : Int) < s.size by omega), if_pos (show (0 : Int) ≤ (p : Int) by omega), hb, hw]
      rw [hd] at h
      by_cases q : c = 59
      · simp only [if_pos q]
        have e : tkC 59 (c :: r) = [] := by simp [tkC, q]
        rw [e] at h
        exact h
      · simp only [if_neg q]
        have e : tkC 59 (c :: r) = c :: tkC 59 r := by simp [tkC, q]
        refine spec_Unescape_l1 s hs out i n (p + 1) v (by omega) (by omega) ?_
        rw [e, List.length_cons] at h
        rw [hdr, show p + 1 + (tkC 59 r).length = p + ((tkC 59 r).length + 1) by omega]
        exact h
theorem un_ar (S i m L R n O : Nat) (h1 : R = S - (i + 1)) (h2 : m + (L + 1) = R) (hs : S ≤ 1048576) (hi : i < S) (hn : S - i ≤ n + 1) (ho : O ≤ i) : wrap64 (((i + 1 + m : Nat) : Int) + 1) = ((i + 1 + m + 1 : Nat) : Int) ∧ S - (i + 1 + m + 1) ≤ n ∧ i + 1 + m + 1 ≤ S ∧ O < 140737488355328 ∧ O + 1 ≤ i + 1 + m + 1 ∧ ¬ ((i + 1 + m : Nat) : Int) = (S : Int) ∧ ((i + 1 + m : Nat) : Int) ≤ (S : Int) ∧ m ≤ 1048576 := by
  rw [wrap_id (by omega) (by omega)]; omega
theorem spec_Unescape_l0 (s : ByteArray) (hs : s.size ≤ 1048576) : ∀ (n i : Nat) (out : List Int), s.size - i ≤ n → i ≤ s.size → out.length ≤ i → Ev (fun k => spec_Unescape.l0 k s out (i : Int)) (resU (un ((bytesOf s).drop i) out))
  | n, i, out, hn, hi, ho => by
    have hl := bytesOf_length s
    cases hd : (bytesOf s).drop i with
    | nil =>
      have := size_drop hd
      apply ev_succ
      simp only [spec_Unescape.l0, if_neg (show ¬ (i : Int) < s.size by omega)]
      rw [un_nil]; exact Ev.now _
    | cons c r =>
      obtain ⟨hb, hi', hdr⟩ := bt_drop hd
      match n, hn with
      | 0, hn => omega
      | n + 1, hn =>
      have hw : wrap64 ((i : Int) + 1) = ((i + 1 : Nat) : Int) := by rw [wrap_id (by omega) (by omega)]; omega
      rw [un_cons]
      apply ev_succ
      simp only [spec_Unescape.l0, if_pos (show (i : Int) < s.size by omega), if_pos (show (0 : Int) ≤ (i : Int) by omega), hb, hw]
      by_cases q : c = 60
      · simp only [if_pos q]; exact Ev.now _
      simp only [if_neg q]
      by_cases q1 : c = 38
      · simp only [if_pos q1]
        refine spec_Unescape_l1 s hs out i (s.size - (i + 1)) (i + 1) _ rfl (by omega) ?_
        rw [hdr]
        have htd := tk_dr 59 r
        have hlen := drC_len 59 r
        have hrl : r.length = s.size - (i + 1) := by rw [← hdr, List.length_drop, hl]
        have hex : bytesOf (s.extract (i + 1) (i + 1 + (tkC 59 r).length)) = tkC 59 r := by
          rw [bytesOf_extract, List.drop_take, hdr, show i + 1 + (tkC 59 r).length - (i + 1) = (tkC 59 r).length by omega]
          have := @List.take_left _ (tkC 59 r) (drC 59 r)
          rw [htd] at this
          exact this
        apply ev_succ
        simp only [spec_Unescape.j2, hw]
        cases hdc : drC 59 r with
        | nil =>
          rw [hdc] at hlen
          simp only [List.length_nil] at hlen
          simp only [if_pos (show ((i + 1 + (tkC 59 r).length : Nat) : Int) = (s.size : Int) by omega), true_or, if_true]
          exact Ev.now _
        | cons a u =>
          rw [hdc] at hlen htd
          simp only [List.length_cons] at hlen
          obtain ⟨k1, k2, k3, k4, k5, k6, k7, k8⟩ := un_ar s.size i (tkC 59 r).length u.length r.length n out.length hrl hlen hs hi' hn ho
          simp only [if_neg k6, if_pos (show (0 : Int) ≤ ((i + 1 : Nat) : Int) from Int.natCast_nonneg _), if_pos (show ((i + 1 : Nat) : Int) ≤ ((i + 1 + (tkC 59 r).length : Nat) : Int) from Int.ofNat_le.2 (Nat.le_add_right _ _)), if_pos k7, Int.toNat_natCast]
          have hz : (s.extract (i + 1) (i + 1 + (tkC 59 r).length)).size ≤ 1048576 := by rw [← bytesOf_length, hex]; exact k8
          have hE := spec_l7Entity_ev (s.extract (i + 1) (i + 1 + (tkC 59 r).length)) hz
          rw [hex] at hE
          refine Ev.bind hE ?_
          have hrg := entB_range (tkC 59 r)
          by_cases q2 : entB (tkC 59 r) < 0
          · have hy : (a :: u = [] ∨ entB (tkC 59 r) < 0) := .inr q2
            simp only [if_pos q2, if_pos hy]; exact Ev.now _
          · have hne : ¬ (a :: u = [] ∨ entB (tkC 59 r) < 0) := by
              rintro (h | h)
              · cases h
              · exact q2 h
            simp only [if_neg q2, if_neg hne, List.tail_cons]
            refine Ev.bind hE ?_
            have hE256 : entB (tkC 59 r) % 256 = entB (tkC 59 r) := by clear hE hw hb k1 k6 k7; omega
            simp only [if_pos k4, k1, hE256]
            have ih := spec_Unescape_l0 s hs n (i + 1 + (tkC 59 r).length + 1) (out ++ [entB (tkC 59 r)]) k2 k3 (by rw [List.length_append]; exact k5)
            have e2 : (bytesOf s).drop (i + 1 + (tkC 59 r).length + 1) = u := by
              have e3 : ∀ m, (bytesOf s).drop (i + 1 + m + 1) = (r.drop m).drop 1 := fun m => by
                rw [← hdr, List.drop_drop, List.drop_drop]
                congr 1
              have e4 := @List.drop_left _ (tkC 59 r) (a :: u)
              rw [htd] at e4
              rw [e3, e4]; rfl
            rw [e2] at ih
            exact ih
      · simp only [if_neg q1, if_pos (show out.length < 140737488355328 by omega)]
        have ih := spec_Unescape_l0 s hs n (i + 1) (out ++ [c]) (by omega) (by omega) (by simp; omega)
        rw [hdr] at ih
        exact ih
theorem spec_Unescape_ev (s : ByteArray) (hs : s.size ≤ 1048576) : Ev (fun k => spec_Unescape.f k s) (resU (un (bytesOf s) [])) := by
  have := spec_Unescape_l0 s hs s.size 0 [] (by omega) (by omega) (by simp)
  rw [List.drop_zero] at this
  exact this
theorem impl_Unescape_l0 : ∀ (n : Nat) (s out : ByteArray), s.size ≤ n → s.size + out.size ≤ 1048576 → (60 : Int) ∉ bytesOf s → Ev (fun k => impl_Unescape.l0 k s out) (resU (un (bytesOf s) (bytesOf out)))
  | n, s, out, hn, hs, h60 => by
    have hl := bytesOf_length s
    obtain ⟨a, b, hc, ha, hb⟩ := cut_one s 38 (by omega)
    have h38 : (((38 : UInt8).toNat : Nat) : Int) = 38 := rfl
    rw [h38] at hc ha hb
    have htd := tk_dr 38 (bytesOf s)
    have hlen := drC_len 38 (bytesOf s)
    have has : a.size = (tkC 38 (bytesOf s)).length := by rw [← bytesOf_length, ha]
    have hf : (60 : Int) ∉ tkC 38 (bytesOf s) := fun h => h60 (by rw [← htd]; exact List.mem_append_left _ h)
    have h1 := un_front (tkC 38 (bytesOf s)) (drC 38 (bytesOf s)) (bytesOf out) hf (tkC_no 38 _)
    rw [htd] at h1
    rw [h1, ← ha, ← bytesOf_append]
    apply ev_succ
    simp only [impl_Unescape.l0, hc, Option.bind_some, if_pos (show out.size + a.size ≤ 9223372036854775807 by omega)]
    have hoa : (out ++ a).size = out.size + a.size := ByteArray.size_append
    cases hdc : drC 38 (bytesOf s) with
    | nil =>
      simp only [ne_eq, not_true, decide_false, Bool.false_eq_true, if_false]
      rw [un_nil]
      show Ev _ (strOfNums (bytesOf (out ++ a)), true)
      rw [strOfNums_bytesOf]
      exact Ev.now _
    | cons x u =>
      have hx := drC_head hdc
      subst hx
      rw [hdc] at hlen hb
      simp only [List.length_cons] at hlen
      simp only [List.tail_cons] at hb
      have hbs : b.size = u.length := by rw [← bytesOf_length, hb]
      simp only [ne_eq, List.cons_ne_nil, not_false_iff, decide_true, if_true]
      rw [un_cons, if_neg (by decide), if_pos rfl]
      obtain ⟨a2, b2, hc2, ha2, hb2⟩ := cut_one b 59 (by omega)
      have h59 : (((59 : UInt8).toNat : Nat) : Int) = 59 := rfl
      rw [h59, hb] at hc2 ha2 hb2
      have hlen2 := drC_len 59 u
      have ha2s : a2.size = (tkC 59 u).length := by rw [← bytesOf_length, ha2]
      obtain ⟨t, ht, hte⟩ := impl_named_eq a2 (by omega)
      rw [ha2] at ht hte
      simp only [hc2, Option.bind_some, ht]
      cases hd2 : drC 59 u with
      | nil =>
        simp only [ne_eq, not_true, decide_false, Bool.false_eq_true, if_false, true_or, if_true]
        exact Ev.now _
      | cons y v =>
        simp only [ne_eq, List.cons_ne_nil, not_false_iff, decide_true, if_true, false_or]
        by_cases q : 0 ≤ entB (tkC 59 u)
        · have hts : t.size = 1 := by rw [← bytesOf_length, hte q]; rfl
          rw [hd2] at hlen2 hb2
          simp only [List.length_cons] at hlen2
          simp only [List.tail_cons] at hb2
          have hb2s : b2.size = v.length := by rw [← bytesOf_length, hb2]
          simp only [decide_eq_true q, if_true, if_neg (show ¬ entB (tkC 59 u) < 0 by omega), hoa, if_pos (show out.size + a.size + t.size ≤ 9223372036854775807 by omega), List.tail_cons]
          match n, hn with
          | 0, hn => omega
          | n + 1, hn =>
          have ih := impl_Unescape_l0 n b2 ((out ++ a) ++ t) (by omega) (by rw [ByteArray.size_append, hoa]; omega) (by
            rw [hb2]
            intro hm
            apply h60
            rw [← htd, hdc]
            refine List.mem_append_right _ (List.mem_cons_of_mem _ ?_)
            rw [← tk_dr 59 u, hd2]
            exact List.mem_append_right _ (List.mem_cons_of_mem _ hm))
          rw [hb2, bytesOf_append _ t, hte q] at ih
          exact ih
        · simp only [decide_eq_false q, Bool.false_eq_true, if_false, if_pos (show entB (tkC 59 u) < 0 by omega)]
          exact Ev.now _
theorem impl_Unescape_ev (s : ByteArray) (hs : s.size ≤ 1048576) : Ev (fun k => impl_Unescape.f k s) (resU (un (bytesOf s) [])) := by
  unfold impl_Unescape.f
  have hc := contains_one s 60
  have h60 : (((60 : UInt8).toNat : Nat) : Int) = 60 := rfl
  rw [h60] at hc
  simp only [hc, Option.bind_some]
  refine ev_iteB (fun q => ?_) (fun q => ?_)
  · rw [un_60 _ _ _ (Nat.le_refl _) (bytesOf_range s) ((decb_iff _).1 q)]
    exact Ev.now _
  · have := impl_Unescape_l0 s.size s ⟨#[]⟩ (Nat.le_refl _) (by have c0 : (⟨#[]⟩ : ByteArray).size = 0 := rfl; omega) (fun h => by rw [decb_true h] at q; cases q)
    exact this

theorem un_esc (c : Int) (r out : List Int) : un (escC c ++ r) out = un r (out ++ [c]) := by
  have k : ∀ (nm : List Int) (v : Int), (∀ x ∈ nm, x ≠ 59) → entB nm = v → 0 ≤ v → un (38 :: (nm ++ 59 :: r)) out = un r (out ++ [v]) := by
    intro nm v hn he hv
    have e1 : ∀ l : List Int, (∀ x ∈ l, x ≠ 59) → tkC 59 (l ++ 59 :: r) = l ∧ drC 59 (l ++ 59 :: r) = 59 :: r := by
      intro l
      induction l with
      | nil => intro _; simp [tkC, drC]
      | cons a l ih =>
        intro h
        have ha := h a (by simp)
        obtain ⟨i1, i2⟩ := ih (fun x hx => h x (by simp [hx]))
        unfold tkC drC at *
        rw [List.cons_append, List.takeWhile_cons, List.dropWhile_cons]
        simp only [decide_eq_true ha, if_true, i1, i2]
        exact ⟨trivial, trivial⟩
    obtain ⟨i1, i2⟩ := e1 nm hn
    rw [un_cons, if_neg (by decide), if_pos rfl, i1, i2, he, if_neg (by rintro (h | h); exact absurd h (by simp); omega)]
    rfl
  unfold escC
  by_cases q1 : c = 38
  · rw [if_pos q1, q1]; exact k [97, 109, 112] 38 (by decide) rfl (by decide)
  rw [if_neg q1]
  by_cases q2 : c = 60
  · rw [if_pos q2, q2]; exact k [108, 116] 60 (by decide) rfl (by decide)
  rw [if_neg q2]
  by_cases q3 : c = 62
  · rw [if_pos q3, q3]; exact k [103, 116] 62 (by decide) rfl (by decide)
  rw [if_neg q3]
  by_cases q4 : c = 34
  · rw [if_pos q4, q4]; exact k [113, 117, 111, 116] 34 (by decide) rfl (by decide)
  rw [if_neg q4, List.cons_append, List.nil_append, un_cons, if_neg q2, if_neg q1]
theorem un_escL : ∀ (l out : List Int), un (escL l) out = some (out ++ l)
  | [], out => by rw [show escL [] = [] from rfl, un_nil, List.append_nil]
  | c :: l, out => by
    rw [show escL (c :: l) = escC c ++ escL l from by simp [escL], un_esc, un_escL l, List.append_assoc]; rfl
theorem escC_no (c : Int) : ∀ x ∈ escC c, x ≠ 60 ∧ x ≠ 34 := by
  unfold escC
  repeat' split
  all_goals first | decide | skip
  intro x hx
  simp only [List.mem_cons, List.not_mem_nil, or_false] at hx
  omega
theorem escL_no (l : List Int) : ∀ x ∈ escL l, x ≠ 60 ∧ x ≠ 34 := by
  intro x hx
  obtain ⟨c, _, h⟩ := List.mem_flatMap.1 hx
  exact escC_no c x h
theorem escL_range (l : List Int) (hr : ∀ x ∈ l, 0 ≤ x ∧ x < 256) : ∀ x ∈ escL l, 0 ≤ x ∧ x < 256 := by
  intro x hx
  obtain ⟨c, hc, h⟩ := List.mem_flatMap.1 hx
  have := hr c hc
  unfold escC at h
  repeat' split at h
  all_goals (simp only [List.mem_cons, List.not_mem_nil, or_false] at h; omega)
theorem escL_len : ∀ l : List Int, (escL l).length ≤ 6 * l.length
  | [] => by simp [escL]
  | c :: l => by
    rw [show escL (c :: l) = escC c ++ escL l from by simp [escL], List.length_append, List.length_cons]
    have := escC_len c
    have := escL_len l
    omega
theorem FnEscapes_l0 (e s : ByteArray) (y : ByteArray × Bool) (he : e.size ≤ 1048576) (hno : ∀ x ∈ bytesOf e, x ≠ 60 ∧ x ≠ 34) : ∀ (n i : Nat), e.size - i = n → i ≤ e.size → Ev (fun k => laws_FnEscapes.l0 k s e s true y.1 y.2 y.1 y.2 (i : Int)) true
  | 0, i, hn, hi => by
    apply ev_succ
    simp only [laws_FnEscapes.l0, if_neg (show ¬ (i : Int) < e.size by omega), if_true, beq_self_eq_true]
    exact Ev.now _
  | n + 1, i, hn, hi => by
    cases hd : (bytesOf e).drop i with
    | nil => have := size_drop hd; omega
    | cons c r =>
      obtain ⟨hb, hi', hdr⟩ := bt_drop hd
      have hc := hno c (List.mem_of_mem_drop (by rw [hd]; simp : c ∈ (bytesOf e).drop i))
      have hw : wrap64 ((i : Int) + 1) = ((i + 1 : Nat) : Int) := by rw [wrap_id (by omega) (by omega)]; omega
      apply ev_succ
      simp only [laws_FnEscapes.l0, if_pos (show (i : Int) < e.size by omega), if_pos (show (0 : Int) ≤ (i : Int) by omega), hb, if_neg hc.1, if_neg hc.2, hw]
      exact FnEscapes_l0 e s y he hno n (i + 1) (by omega) (by omega)
theorem FnEscapes : laws_FnEscapes.Pure := by
  intro l _ _
  apply Ev.rounds
  unfold laws_FnEscapes.f laws_big.f
  simp only [Option.bind_some]
  refine ev_iteB (fun _ => Ev.now _) (fun q => ?_)
  have hl : l.length ≤ 1048576 := by
    have := of_decide_eq_false q
    omega
  obtain ⟨h, hn⟩ := l1New_ev l hl
  obtain ⟨x, i1, e1, f1, p1, a1, b1⟩ := l1Text_dr l 0 h hl (by omega) (by omega)
  obtain ⟨y, i2, e2, f2, p2, a2, b2⟩ := l1Str_dr [(⟨#[]⟩ : ByteArray), (⟨#[38]⟩ : ByteArray), (⟨#[60, 38, 62, 34, 39]⟩ : ByteArray), (⟨#[38, 97, 109, 112, 59]⟩ : ByteArray)] (by decide) l i1 e1 hl a1 b1
  have f2' : spec_l1Str.f l i1 e1 _ = some (y, i2, e2) := f2
  have hy : y.size ≤ 9 := (by decide : ∀ x ∈ _, x.size ≤ 9) y p2
  obtain ⟨z, i3, e3, f3, p3, a3, b3⟩ := l1Str_dr [(⟨#[]⟩ : ByteArray), (⟨#[]⟩ : ByteArray), (⟨#[38, 97, 112, 111, 115, 59]⟩ : ByteArray), (⟨#[38, 35, 54, 53, 59]⟩ : ByteArray), (⟨#[38, 35, 51, 49, 59]⟩ : ByteArray), (⟨#[38, 35, 49, 50, 55, 59]⟩ : ByteArray), (⟨#[38, 35, 48, 54, 53, 59]⟩ : ByteArray), (⟨#[38]⟩ : ByteArray), (⟨#[38, 120, 59]⟩ : ByteArray), (⟨#[60]⟩ : ByteArray), (⟨#[38, 97, 109, 112]⟩ : ByteArray), (⟨#[38, 35, 59]⟩ : ByteArray), (⟨#[62]⟩ : ByteArray)] (by decide) l i1 e1 hl a1 b1
  have f3' : spec_l1Str.f l i1 e1 _ = some (z, i3, e3) := f3
  have hz : z.size ≤ 9 := (by decide : ∀ x ∈ _, x.size ≤ 9) z p3
  have hxy : (x ++ y).size ≤ 40 := by rw [ByteArray.size_append]; omega
  have es : Ev (fun k => spec_DrawEscape.f k l) (x ++ y) := by
    unfold spec_DrawEscape.f
    refine Ev.bind hn ?_
    simp only [f1, Option.bind_some, f2', if_pos (show x.size + y.size ≤ 9223372036854775807 by omega)]
    exact Ev.now _
  have hse : ∀ s : ByteArray, s.size ≤ 40 → (strOfNums (escL (bytesOf s))).size ≤ 300 ∧ bytesOf (strOfNums (escL (bytesOf s))) = escL (bytesOf s) := fun s hs => by
    have hb : bytesOf (strOfNums (escL (bytesOf s))) = escL (bytesOf s) := bytesOf_strOfNums _ (escL_range _ (bytesOf_range s))
    have h1 := escL_len (bytesOf s)
    rw [bytesOf_length] at h1
    refine ⟨?_, hb⟩
    rw [size_len, hb]; omega
  have hx2 := hse x (by omega)
  have et : Ev (fun k => spec_DrawUnescape.f k l) (strOfNums (escL (bytesOf x)) ++ z) := by
    unfold spec_DrawUnescape.f
    refine Ev.bind hn ?_
    simp only [f1, Option.bind_some]
    refine Ev.bind (spec_Escape_ev x (by omega)) ?_
    simp only [f3', Option.bind_some, if_pos (show (strOfNums (escL (bytesOf x))).size + z.size ≤ 9223372036854775807 by omega)]
    exact Ev.now _
  have ht : (strOfNums (escL (bytesOf x)) ++ z).size ≤ 1048576 := by rw [ByteArray.size_append]; omega
  have h2 := hse (x ++ y) hxy
  have hu := impl_Unescape_ev (strOfNums (escL (bytesOf (x ++ y)))) (by omega)
  rw [h2.2, un_escL, List.nil_append] at hu
  have hu2 : Ev (fun k => impl_Unescape.f k (strOfNums (escL (bytesOf (x ++ y))))) (x ++ y, true) := by
    have e : resU (some (bytesOf (x ++ y))) = (x ++ y, true) := by show (strOfNums (bytesOf (x ++ y)), true) = _; rw [strOfNums_bytesOf]
    rw [← e]; exact hu
  refine Ev.bind es (Ev.bind (impl_Escape_ev (x ++ y) (by omega)) (Ev.bind hu2 (Ev.bind et (Ev.bind (impl_Unescape_ev _ ht) (Ev.bind (spec_Unescape_ev _ ht) ?_)))))
  exact FnEscapes_l0 (strOfNums (escL (bytesOf (x ++ y)))) (x ++ y) _ (by omega) (by rw [h2.2]; exact escL_no _) _ 0 rfl (by omega)

end Go.Proofs.YtgfpiijpgpkoiabDoor.Pure
