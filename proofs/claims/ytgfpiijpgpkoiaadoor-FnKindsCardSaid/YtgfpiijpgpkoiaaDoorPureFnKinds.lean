/- Of drawn texts and numbers the program answers as the reference does, and a small name is plain and small, for all codes; no condition. -/
import Derived.Test.YtgfpiijpgpkoiaaDoorGFnKindsx3
import Derived.Test.YtgfpiijpgpkoiaaDoorBase
import Derived.Lib.ItoaNum
namespace Go.Proofs.YtgfpiijpgpkoiaaDoor.Pure
open Go.RowKit Go.Proofs.YtgfpiijpgpkoiaaDoor.GFnKinds Go.Proofs.YtgfpiijpgpkoiaaDoor.Base Go.Proofs.YtgfpiijpgpkoiaaDoorW.PrintWords Go.Proofs.YtgfpiijpgpkoiaaDoorW.PrintLast
set_option linter.unusedVariables false
set_option linter.unusedSimpArgs false

/-! what is drawn: something, with what is known of it -/
theorem bits255 (x : Int) : 0 ≤ Go.bits .and .i64 x 255 ∧ Go.bits .and .i64 x 255 ≤ 255 := by
  have h2 : (BitVec.ofInt 64 x).toNat &&& 255 ≤ 255 := Nat.and_le_right
  have h : Go.bits .and .i64 x 255 = IntKind.i64.wrap (((BitVec.ofInt 64 x &&& BitVec.ofInt 64 255).toNat : Nat) : Int) := rfl
  have e : (BitVec.ofInt 64 255).toNat = 255 := by decide
  rw [h, BitVec.toNat_and, e, IntKind.wrap_i64]
  omega
def Dr {α : Type} (f : List Int → Int → Int → Option (α × Int × Int)) (P : α → Prop) : Prop :=
  ∀ (b : List Int) (i h : Int), b.length ≤ 1048576 → 0 ≤ i → i ≤ b.length → ∃ x i' h', f b i h = some (x, i', h') ∧ P x ∧ 0 ≤ i' ∧ i' ≤ b.length
def DrE {α : Type} (f : Nat → List Int → Int → Int → Option (α × Int × Int)) (P : α → Prop) : Prop :=
  ∀ (b : List Int) (i h : Int), b.length ≤ 1048576 → 0 ≤ i → i ≤ b.length → ∃ x i' h', Ev (fun k => f k b i h) (x, i', h') ∧ P x ∧ 0 ≤ i' ∧ i' ≤ b.length
theorem l1New_ev (l : List Int) (hl : l.length ≤ 1048576) : ∃ h, Ev (fun k => spec_l1New.f k l) (l, (0 : Int), h) := by
  have key : ∀ n i (x : Int), l.length - i = n → ∃ h, Ev (fun k => spec_l1New.l0 k l x (i : Int)) (l, (0 : Int), h) := by
    intro n
    induction n with
    | zero =>
      intro i x hn
      refine ⟨x, ?_⟩
      apply ev_succ; simp only [spec_l1New.l0, if_neg (show ¬ (i : Int) < (l.length : Int) by omega)]; exact Ev.now _
    | succ n ih =>
      intro i x hn
      by_cases h4 : (i : Int) < 4000
      · obtain ⟨h, hh⟩ := ih (i + 1) (Go.bits .and .i64 (wrap64 ((wrap64 ((wrap64 (x * 137)) + (wrap64 (rd l i)))) + 11)) 1073741823) (by omega)
        refine ⟨h, ?_⟩
        apply ev_succ
        simp only [spec_l1New.l0, if_pos (show (i : Int) < (l.length : Int) by omega), if_pos h4, if_pos (show (0 : Int) ≤ (i : Int) by omega), wrap_id (x := (i : Int) + 1) (by omega) (by omega)]
        exact hh
      · refine ⟨x, ?_⟩
        apply ev_succ; simp only [spec_l1New.l0, if_pos (show (i : Int) < (l.length : Int) by omega), if_neg h4]; exact Ev.now _
  exact key _ 0 _ rfl
theorem l1Byte_dr : Dr spec_l1Byte.f (fun x => 0 ≤ x ∧ x ≤ 255) := by
  intro b i h hb h0 h1
  unfold spec_l1Byte.f
  by_cases q : i < (b.length : Int)
  · rw [if_pos q, if_pos h0]
    exact ⟨_, _, _, rfl, bits255 _, by rw [wrap_id (by omega) (by omega)]; omega, by rw [wrap_id (by omega) (by omega)]; omega⟩
  · rw [if_neg q]
    exact ⟨_, _, _, rfl, bits255 _, h0, h1⟩
theorem tmod_range (x n : Int) (hx : 0 ≤ x) (hn : 0 < n) : 0 ≤ Int.tmod x n ∧ Int.tmod x n < n := by
  rw [Int.tmod_eq_emod_of_nonneg hx]
  exact ⟨Int.emod_nonneg _ (by omega), Int.emod_lt_of_pos _ hn⟩
theorem l1Below_dr (n : Int) : Dr (fun b i h => spec_l1Below.f b i h n) (fun x => 0 ≤ x ∧ (0 < n → x < n)) := by
  intro b i h hb h0 h1
  show ∃ x i' h', spec_l1Below.f b i h n = some (x, i', h') ∧ _
  unfold spec_l1Below.f
  by_cases q : n ≤ 0
  · rw [if_pos q]
    exact ⟨_, _, _, rfl, ⟨by omega, by omega⟩, h0, h1⟩
  · rw [if_neg q]
    obtain ⟨x, i1, e1, f1, p1, a1, b1⟩ := l1Byte_dr b i h hb h0 h1
    by_cases q1 : n ≤ 256
    · rw [if_pos q1, f1]
      simp only [Option.bind_some, if_neg (show ¬ n = 0 by omega)]
      have := tmod_range x n p1.1 (by omega)
      exact ⟨_, _, _, rfl, ⟨this.1, fun _ => this.2⟩, a1, b1⟩
    · rw [if_neg q1, f1]
      obtain ⟨y, i2, e2, f2, p2, a2, b2⟩ := l1Byte_dr b i1 e1 hb a1 b1
      obtain ⟨z, i3, e3, f3, p3, a3, b3⟩ := l1Byte_dr b i2 e2 hb a2 b2
      simp only [Option.bind_some, f2, f3, if_neg (show ¬ n = 0 by omega)]
      rw [wrap_id (x := x * 65536) (by omega) (by omega), wrap_id (x := y * 256) (by omega) (by omega), wrap_id (x := x * 65536 + y * 256) (by omega) (by omega), wrap_id (x := x * 65536 + y * 256 + z) (by omega) (by omega)]
      have := tmod_range (x * 65536 + y * 256 + z) n (by omega) (by omega)
      exact ⟨_, _, _, rfl, ⟨this.1, fun _ => this.2⟩, a3, b3⟩

theorem l1Str_dr (l : List ByteArray) (hl : 0 < l.length) : Dr (fun b i h => spec_l1Str.f b i h l) (fun x => x ∈ l) := by
  intro b i h hb h0 h1
  obtain ⟨x, i1, e1, f1, p1, a1, b1⟩ := l1Below_dr (l.length : Int) b i h hb h0 h1
  have f1' : spec_l1Below.f b i h (l.length : Int) = some (x, i1, e1) := f1
  have hx := p1.2 (by omega)
  show ∃ x i' h', spec_l1Str.f b i h l = some (x, i', h') ∧ _
  unfold spec_l1Str.f
  rw [f1']
  simp only [Option.bind_some, if_pos p1.1, if_pos hx]
  refine ⟨_, _, _, rfl, ?_, a1, b1⟩
  have hn : x.toNat < l.length := by omega
  rw [rdOf, List.getD_eq_getElem?_getD, List.getElem?_eq_getElem hn]
  exact List.getElem_mem hn
theorem Dr.of_str {P : ByteArray → Prop} {l : List ByteArray} {f : List Int → Int → Int → Option (ByteArray × Int × Int)} (hf : ∀ b i h, f b i h = (spec_l1Str.f b i h l).bind fun t => some (t.1, t.2.1, t.2.2)) (hl : 0 < l.length) (hP : ∀ x ∈ l, P x) : Dr f P := by
  intro b i h hb h0 h1
  obtain ⟨x, i1, e1, f1, p1, a1, b1⟩ := l1Str_dr l hl b i h hb h0 h1
  have f1' : spec_l1Str.f b i h l = some (x, i1, e1) := f1
  rw [hf, f1']
  exact ⟨_, _, _, rfl, hP x p1, a1, b1⟩

theorem l1Text_dr : Dr spec_l1Text.f (fun x => x.size ≤ 30) := Dr.of_str (fun _ _ _ => rfl) (by decide) (by decide)

theorem l1Int_dr (l : List Int) (hl : 0 < l.length) : Dr (fun b i h => spec_l1Int.f b i h l) (fun x => x ∈ l) := by
  intro b i h hb h0 h1
  obtain ⟨x, i1, e1, f1, p1, a1, b1⟩ := l1Below_dr (l.length : Int) b i h hb h0 h1
  have f1' : spec_l1Below.f b i h (l.length : Int) = some (x, i1, e1) := f1
  have hx := p1.2 (by omega)
  show ∃ x i' h', spec_l1Int.f b i h l = some (x, i', h') ∧ _
  unfold spec_l1Int.f
  rw [f1']
  simp only [Option.bind_some, if_pos p1.1, if_pos hx]
  refine ⟨_, _, _, rfl, ?_, a1, b1⟩
  have hn : x.toNat < l.length := by omega
  rw [rd, List.getD_eq_getElem?_getD, List.getElem?_eq_getElem hn]
  exact List.getElem_mem hn
theorem l1Num_dr : Dr spec_l1Num.f (fun x => -9223372036854775808 ≤ x ∧ x ≤ 9223372036854775807) := by
  intro b i h hb h0 h1
  obtain ⟨x, i1, e1, f1, p1, a1, b1⟩ := l1Below_dr 1000 b i h hb h0 h1
  have f1' : spec_l1Below.f b i h 1000 = some (x, i1, e1) := f1
  obtain ⟨y, i2, e2, f2, p2, a2, b2⟩ := l1Int_dr [0, 1, 9, 10, 15, 16, 255, 256, 4095, 65535, 9999999, 10000000, (-1), (-9223372036854775808), 9223372036854775807, x] (by simp) b i1 e1 hb a1 b1
  have f2' : spec_l1Int.f b i1 e1 _ = some (y, i2, e2) := f2
  unfold spec_l1Num.f
  rw [f1']
  simp only [Option.bind_some, f2']
  refine ⟨_, _, _, rfl, ?_, a2, b2⟩
  have := p1.2 (by omega)
  have := p1.1
  simp only [List.mem_cons, List.not_mem_nil, or_false] at p2
  omega

/-- byte classes -/
def plainC (c : Int) : Bool := decide (32 ≤ c) && decide (c ≤ 126)
def smallC (c : Int) : Bool := decide (97 ≤ c) && decide (c ≤ 122)
def digitC (c : Int) : Bool := decide (48 ≤ c) && decide (c ≤ 57)
def largeC (c : Int) : Bool := decide (65 ≤ c) && decide (c ≤ 90)

theorem l1In_eq (c a b : Int) : spec_l1In.f c a b = some (decide (a ≤ c) && decide (c ≤ b)) := by
  unfold spec_l1In.f; split <;> simp [*] <;> omega

theorem isPlain_eq (c : Int) : impl_isPlain.f c = some (plainC c) := by
  unfold impl_isPlain.f plainC; split <;> simp [*] <;> omega
def plainB (l : List Int) : Bool := l.all plainC
theorem impl_Plain_ev (s : ByteArray) (hs : s.size ≤ 140737488351232) : Ev (fun k => impl_Plain.f k s) (plainB (bytesOf s)) := by
  refine str_loop s (fun i k => impl_Plain.l0 k s (i : Int)) plainB ?_ ?_ hs 0
  · intro i hi
    apply ev_succ; simp only [impl_Plain.l0, if_neg (show ¬ (i : Int) < s.size by omega)]; exact Ev.now _
  · intro i c r h hb hi hw hw1 ih
    apply ev_succ
    simp only [impl_Plain.l0, if_pos (show (i : Int) < s.size by omega), if_pos (show (0 : Int) ≤ i by omega), hb, isPlain_eq, Option.bind_some, hw1]
    refine ev_ite (fun h => ?_) (fun h => ?_)
    · simpa [plainB, h] using ih
    · simpa [plainB, h] using Ev.now _
theorem spec_Plain_ev (s : ByteArray) (hs : s.size ≤ 140737488351232) : Ev (fun k => spec_Plain.f k s) (plainB (bytesOf s)) := by
  refine str_loop s (fun i k => spec_Plain.l0 k s (i : Int)) plainB ?_ ?_ hs 0
  · intro i hi
    apply ev_succ; simp only [spec_Plain.l0, if_neg (show ¬ (i : Int) < s.size by omega)]; exact Ev.now _
  · intro i c r h hb hi hw hw1 ih
    apply ev_succ
    simp only [spec_Plain.l0, if_pos (show (i : Int) < s.size by omega), if_pos (show (0 : Int) ≤ i by omega), hb, hw, l1In_eq, Option.bind_some, hw1]
    refine ev_ite (fun h => ?_) (fun h => ?_)
    · have : plainC c = true := h
      simpa [plainB, this] using ih
    · have : plainC c = false := by simpa [plainC] using h
      simpa [plainB, this] using Ev.now _

def lenB (s : ByteArray) (a b : Int) : Bool := decide (a ≤ (s.size : Int)) && decide ((s.size : Int) ≤ b)

theorem in_eq (c a b : Int) : impl_in.f c a b = some (decide (a ≤ c) && decide (c ≤ b)) := by
  unfold impl_in.f; split <;> simp [*] <;> omega

theorem isSmall_eq (c : Int) : impl_isSmall.f c = some (smallC c) := by
  unfold impl_isSmall.f smallC; split <;> simp [*] <;> omega

theorem isDigit_eq (c : Int) : impl_isDigit.f c = some (digitC c) := by
  unfold impl_isDigit.f digitC; split <;> simp [*] <;> omega

theorem l1Small_eq (c : Int) (h : wrap64 c = c) : spec_l1Small.f c = some (smallC c) := by
  unfold spec_l1Small.f; rw [h, l1In_eq]; rfl

theorem l1Digit_eq (c : Int) (h : wrap64 c = c) : spec_l1Digit.f c = some (digitC c) := by
  unfold spec_l1Digit.f; rw [h, l1In_eq]; rfl

/-- a small name -/
def snC (first : Bool) (c : Int) : Bool := smallC c || (!first && (digitC c || decide (c = 45)))
def snB : Nat → List Int → Bool
  | _, [] => true
  | i, c :: r => snC (i == 0) c && snB (i + 1) r
def smallName (s : ByteArray) : Bool := snB 0 (bytesOf s) && lenB s 1 20
theorem impl_SmallName_ev (s : ByteArray) (hs : s.size ≤ 140737488351232) : Ev (fun k => impl_SmallName.f k s) (smallName s) := by
  refine str_loop_st s (fun i (_ : Unit) k => impl_SmallName.l0 k s (i : Int)) (fun i _ r => snB i r && lenB s 1 20) (fun _ _ _ => True) ?_ ?_ hs 0 () trivial
  · intro i _ _ hi
    apply ev_succ; simp only [impl_SmallName.l0, if_neg (show ¬ (i : Int) < s.size by omega), in_eq, Option.bind_some]; exact Ev.now _
  · intro i _ c r _ h hb hi hw hw1 ih
    replace ih := ih () trivial
    apply ev_succ
    simp only [impl_SmallName.l0, if_pos (show (i : Int) < s.size by omega), if_pos (show (0 : Int) ≤ i by omega), hb, isSmall_eq, isDigit_eq, Option.bind_some, hw1]
    refine ev_iteB (fun q => ?_) (fun q => ev_ite (fun q0 => ?_) (fun q0 => ?_))
    · simpa [snB, snC, q] using ih
    · have : i = 0 := by omega
      subst this; simpa [snB, snC, q] using Ev.now false
    · have hi0 : (i == 0) = false := by simp; omega
      refine ev_iteB (fun q1 => ?_) (fun q1 => ev_ite (fun q2 => ?_) (fun q2 => ?_))
      · simpa [snB, snC, q, hi0, q1] using ih
      · subst q2; simpa [snB, snC, q, hi0, q1] using ih
      · simpa [snB, snC, q, hi0, q1, q2] using Ev.now false
theorem spec_SmallName_ev (s : ByteArray) (hs : s.size ≤ 140737488351232) : Ev (fun k => spec_SmallName.f k s) (smallName s) := by
  refine str_loop_st s (fun i (_ : Unit) k => spec_SmallName.l0 k s (i : Int)) (fun i _ r => snB i r && lenB s 1 20) (fun _ _ _ => True) ?_ ?_ hs 0 () trivial
  · intro i _ _ hi
    apply ev_succ; simp only [spec_SmallName.l0, if_neg (show ¬ (i : Int) < s.size by omega), l1In_eq, Option.bind_some]; exact Ev.now _
  · intro i _ c r _ h hb hi hw hw1 ih
    replace ih := ih () trivial
    apply ev_succ
    simp only [spec_SmallName.l0, if_pos (show (i : Int) < s.size by omega), if_pos (show (0 : Int) ≤ i by omega), hb, l1Small_eq c hw, l1Digit_eq c hw, Option.bind_some, hw1]
    refine ev_iteB (fun q => ?_) (fun q => ev_ite (fun q0 => ?_) (fun q0 => ?_))
    · simpa [snB, snC, q] using ih
    · have : i = 0 := by omega
      subst this; simpa [snB, snC, q] using Ev.now false
    · have hi0 : (i == 0) = false := by simp; omega
      refine ev_iteB (fun q1 => ?_) (fun q1 => ev_ite (fun q2 => ?_) (fun q2 => ?_))
      · simpa [snB, snC, q, hi0, q1] using ih
      · subst q2; simpa [snB, snC, q, hi0, q1] using ih
      · simpa [snB, snC, q, hi0, q1, q2] using Ev.now false

theorem isLarge_eq (c : Int) : impl_isLarge.f c = some (largeC c) := by
  unfold impl_isLarge.f largeC; split <;> simp [*] <;> omega

/-- a text in small letters, byte by byte -/
def lowC (c : Int) : Int := if largeC c = true then c + 32 else c
def lowL (l : List Int) : List Int := l.map lowC
theorem lowC_range {c : Int} (h : 0 ≤ c ∧ c < 256) : 0 ≤ lowC c ∧ lowC c < 256 := by
  unfold lowC largeC
  split
  · rename_i q
    simp at q
    omega
  · exact h
theorem lowC_mod {c : Int} (h : 0 ≤ c ∧ c < 256) (q : largeC c = true) : (c + 32) % 256 = lowC c := by
  have := lowC_range h
  unfold lowC at this ⊢
  rw [if_pos q] at this ⊢
  omega
theorem lowL_range {l : List Int} (h : ∀ x ∈ l, 0 ≤ x ∧ x < 256) : ∀ x ∈ lowL l, 0 ≤ x ∧ x < 256 := by
  intro x hx
  obtain ⟨c, hc, rfl⟩ := List.mem_map.1 hx
  exact lowC_range (h c hc)
def lower (s : ByteArray) : ByteArray := strOfNums (lowL (bytesOf s))
theorem impl_Lower_l0 (l : List Int) (hl : l.length ≤ 1048576) (hr : ∀ x ∈ l, 0 ≤ x ∧ x < 256) : ∀ n i, l.length - i = n → i ≤ l.length → Ev (fun k => impl_Lower.l0 k ((lowL l).take i ++ l.drop i) (l.length : Int) (i : Int)) (strOfNums (lowL l)) := by
  intro n
  induction n with
  | zero =>
    intro i hn hi
    have h0 : i = l.length := by omega
    subst h0
    apply ev_succ; simp only [impl_Lower.l0, if_neg (show ¬ ((l.length : Nat) : Int) < (l.length : Int) by omega)]
    simpa [lowL, List.take_of_length_le] using Ev.now _
  | succ n ih =>
    intro i hn hi
    have hlt : i < l.length := by omega
    have hll : (lowL l).length = l.length := by simp [lowL]
    have htl : ((lowL l).take i).length = i := by rw [List.length_take]; omega
    have hlen : ((lowL l).take i ++ l.drop i).length = l.length := by rw [List.length_append, htl, List.length_drop]; omega
    have hw1 : wrap64 ((i : Int) + 1) = ((i + 1 : Nat) : Int) := by rw [wrap_id (by omega) (by omega)]; rfl
    have hrd : rd ((lowL l).take i ++ l.drop i) (i : Int) = l[i] := by
      rw [rd, Int.toNat_natCast, List.getD_eq_getElem?_getD, List.getElem?_append_right (by omega), htl, List.getElem?_drop]
      simp [hlt]
    have hc := hr l[i] (List.getElem_mem _)
    have step : (lowL l).take (i + 1) ++ l.drop (i + 1) = (lowL l).take i ++ lowC l[i] :: l.drop (i + 1) := by
      rw [List.take_succ_eq_append_getElem (by omega)]
      simp [lowL]
    have hd : l.drop i = l[i] :: l.drop (i + 1) := List.drop_eq_getElem_cons hlt
    have ih' := ih (i + 1) (by omega) (by omega)
    rw [step] at ih'
    apply ev_succ
    simp only [impl_Lower.l0, if_pos (show (i : Int) < (l.length : Int) by omega), if_pos (show (0 : Int) ≤ i by omega), hlen, hrd, isLarge_eq, Option.bind_some, hw1]
    refine ev_ite (fun q => ?_) (fun q => ?_)
    · rw [Int.toNat_natCast, lowC_mod hc q, List.set_append_right _ _ (by omega), htl, Nat.sub_self, hd, List.set_cons_zero]
      exact ih'
    · rw [show lowC l[i] = l[i] by unfold lowC; rw [if_neg q], ← hd] at ih'
      exact ih'
theorem impl_Lower_ev (s : ByteArray) (hs : s.size ≤ 1048576) : Ev (fun k => impl_Lower.f k s) (lower s) := by
  unfold impl_Lower.f
  simp only [if_pos (show s.size < 140737488355328 by omega), Option.bind_some]
  have := impl_Lower_l0 (bytesOf s) (by rw [bytesOf_length]; exact hs) (bytesOf_range s) _ 0 rfl (Nat.zero_le _)
  simpa [lower] using this

/-- the digits of a number, as bytes -/
def numD (u : Nat) : List Int := (Lib.decDigits u).map fun b => (b.toNat : Int)
theorem numD_step (u : Nat) (h : 9 < u) : numD u = numD (u / 10) ++ [48 + ((u % 10 : Nat) : Int)] := by
  unfold numD
  rw [Lib.decDigits, dif_neg (by omega), List.map_append]
  congr 1
  simp only [List.map_cons, List.map_nil, List.cons.injEq, and_true]
  rw [show (UInt8.ofNat (48 + u % 10)).toNat = 48 + u % 10 from by simp; omega]
  omega
theorem numD_low (u : Nat) (h : u ≤ 9) : numD u = [48 + (u : Int)] := by
  unfold numD
  rw [Lib.decDigits, dif_pos (by omega)]
  simp only [List.map_cons, List.map_nil, List.cons.injEq, and_true]
  rw [show (UInt8.ofNat (48 + u)).toNat = 48 + u from by simp; omega]
  omega
theorem numD_range (u : Nat) : ∀ x ∈ numD u, 0 ≤ x ∧ x < 256 := by
  intro x hx
  obtain ⟨b, _, rfl⟩ := List.mem_map.1 hx
  have := b.toNat_lt
  omega
theorem strNum (u : Nat) : (⟨(Lib.decDigits u).toArray⟩ : ByteArray) = strOfNums (numD u) := by
  apply bytesOf_inj
  rw [bytesOf_strOfNums _ (numD_range u), bytesOf_mk]; rfl
theorem numD_len : ∀ (k u : Nat), u < 10 ^ (k + 1) → (numD u).length ≤ k + 1
  | 0, u, h => by rw [numD_low u (by simpa using Nat.le_of_lt_succ h)]; simp
  | k + 1, u, h => by
    rcases Nat.lt_or_ge 9 u with h9 | h9
    · rw [numD_step u h9, List.length_append]
      have := numD_len k (u / 10) (by rw [Nat.pow_succ] at h; omega)
      simp; omega
    · rw [numD_low u h9]; simp
/-- one digit in front -/
theorem digit_byte (u : Nat) (hu : u ≤ 9223372036854775807) : wrap64 (48 + Int.tmod (u : Int) 10) % 256 = 48 + ((u % 10 : Nat) : Int) := by
  have e : Int.tmod (u : Int) 10 = ((u % 10 : Nat) : Int) := by rw [Int.tmod_eq_emod_of_nonneg (by omega)]; omega
  rw [e, wrap_id (by omega) (by omega)]
  omega
theorem tdiv_ten (u : Nat) (hu : u ≤ 9223372036854775807) : wrap64 (Int.tdiv (u : Int) 10) = ((u / 10 : Nat) : Int) := by
  rw [Int.tdiv_eq_ediv_of_nonneg (by omega), wrap_id (by omega) (by omega)]
  omega

theorem impl_NumText_eq (n : Int) (hn : n ≤ 9223372036854775807) : impl_NumText.f n = some (strOfNums (numD n.toNat)) := by
  have e : mx n 0 = ((n.toNat : Nat) : Int) := by unfold mx; split <;> omega
  unfold impl_NumText.f
  rw [e]
  unfold strconv_Itoa.f
  rw [if_pos (by omega), Option.bind_some]
  unfold Lib.itoa
  rw [if_neg (by omega), Int.toNat_natCast, strNum]

theorem spec_NumText_l0 : ∀ (n u : Nat) (x : ByteArray), u < 10 ^ (n + 1) → u ≤ 9223372036854775807 → x.size ≤ 1000 - n → n ≤ 20 → bytesOf x = (numD u).drop ((numD u).length - 1) ++ (bytesOf x).drop 1 → Ev (fun k => spec_NumText.l0 k (u : Int) x) (strOfNums (numD u ++ (bytesOf x).drop 1))
  | 0, u, x, h, hu, hx, hn, hb => by
    have h9 : u ≤ 9 := by omega
    apply ev_succ
    simp only [spec_NumText.l0, if_neg (show ¬ (u : Int) > 9 by omega)]
    rw [numD_low u h9] at hb ⊢
    simp only [List.length_cons, List.length_nil, List.drop_zero, Nat.zero_add, Nat.sub_self] at hb
    rw [← hb, strOfNums_bytesOf]
    exact Ev.now _
  | n + 1, u, x, h, hu, hx, hn, hb => by
    apply ev_succ
    rcases Nat.lt_or_ge 9 u with h9 | h9
    · have hy : bytesOf (strOfNums [48 + ((u / 10 % 10 : Nat) : Int)]) = [48 + ((u / 10 % 10 : Nat) : Int)] := bytesOf_strOfNums _ (by intro z hz; simp at hz; omega)
      have hs1 : (strOfNums [48 + ((u / 10 % 10 : Nat) : Int)]).size = 1 := by rw [size_len, hy]; rfl
      simp only [spec_NumText.l0, if_pos (show (u : Int) > 9 by omega), tdiv_ten u hu, digit_byte (u / 10) (by omega), Option.bind_some, hs1, if_pos (show 1 + x.size ≤ 9223372036854775807 by omega)]
      have e : bytesOf (strOfNums [48 + ((u / 10 % 10 : Nat) : Int)] ++ x) = (48 + ((u / 10 % 10 : Nat) : Int)) :: bytesOf x := by rw [bytesOf_append, hy]; rfl
      have ih := spec_NumText_l0 n (u / 10) (strOfNums [48 + ((u / 10 % 10 : Nat) : Int)] ++ x) (by rw [Nat.pow_succ] at h; omega) (by omega) (by rw [ByteArray.size_append, hs1]; omega) (by omega) (by
        rw [e]
        simp only [List.drop_succ_cons, List.drop_zero]
        rcases Nat.lt_or_ge 9 (u / 10) with h10 | h10
        · rw [numD_step (u / 10) h10]
          simp
        · rw [numD_low (u / 10) h10, Nat.mod_eq_of_lt (by omega)]
          simp)
      rw [e] at ih
      simp only [List.drop_succ_cons, List.drop_zero] at ih
      rw [numD_step u h9] at hb ⊢
      simp only [List.length_append, List.length_cons, List.length_nil, Nat.zero_add, Nat.add_sub_cancel, List.drop_left] at hb
      rw [List.append_assoc, ← hb]
      exact ih
    · simp only [spec_NumText.l0, if_neg (show ¬ (u : Int) > 9 by omega)]
      rw [numD_low u h9] at hb ⊢
      simp only [List.length_cons, List.length_nil, List.drop_zero, Nat.zero_add, Nat.sub_self] at hb
      rw [← hb, strOfNums_bytesOf]
      exact Ev.now _
theorem spec_NumText_j0 (u : Nat) (hu : u ≤ 9223372036854775807) : Ev (fun k => spec_NumText.j0 k (u : Int)) (strOfNums (numD u)) := by
  apply ev_succ
  simp only [spec_NumText.j0, digit_byte u hu]
  have hy : bytesOf (strOfNums [48 + ((u % 10 : Nat) : Int)]) = [48 + ((u % 10 : Nat) : Int)] := bytesOf_strOfNums _ (by intro z hz; simp at hz; omega)
  have hs1 : (strOfNums [48 + ((u % 10 : Nat) : Int)]).size = 1 := by rw [size_len, hy]; rfl
  have := spec_NumText_l0 18 u (strOfNums [48 + ((u % 10 : Nat) : Int)]) (by omega) hu (by omega) (by omega) (by
    rw [hy]
    rcases Nat.lt_or_ge 9 u with h9 | h9
    · rw [numD_step u h9]; simp
    · rw [numD_low u h9, Nat.mod_eq_of_lt (by omega)]; simp)
  rw [hy] at this
  simpa using this
theorem spec_NumText_ev (n : Int) (hn : n ≤ 9223372036854775807) : Ev (fun k => spec_NumText.f k n) (strOfNums (numD n.toNat)) := by
  unfold spec_NumText.f
  refine ev_ite (fun h => ?_) (fun h => ?_)
  · rw [show n.toNat = 0 from by omega]
    exact spec_NumText_j0 0 (by omega)
  · have := spec_NumText_j0 n.toNat (by omega)
    rwa [Int.toNat_of_nonneg (by omega)] at this

/-- a digit to the base 16, and a number's digits -/
def hexN (u : Nat) : List Int := (hexB u).map fun b => (b.toNat : Int)
def hexDg (d : Nat) : Int := if d < 10 then 48 + (d : Int) else 87 + (d : Int)
theorem hexb_toNat (d : Nat) (h : d < 16) : ((hexb d).toNat : Int) = hexDg d := by
  unfold hexb hexDg
  split
  · rw [show (UInt8.ofNat (48 + d)).toNat = 48 + d from by simp; omega]; omega
  · rw [show (UInt8.ofNat (87 + d)).toNat = 87 + d from by simp; omega]; omega
theorem hexN_step (u : Nat) (h : 15 < u) : hexN u = hexN (u / 16) ++ [hexDg (u % 16)] := by
  unfold hexN
  rw [hexB, dif_neg (by omega), List.map_append]
  congr 1
  simp only [List.map_cons, List.map_nil, List.cons.injEq, and_true]
  exact hexb_toNat _ (by omega)
theorem hexN_low (u : Nat) (h : u ≤ 15) : hexN u = [hexDg u] := by
  unfold hexN
  rw [hexB, dif_pos (by omega)]
  simp only [List.map_cons, List.map_nil, List.cons.injEq, and_true]
  exact hexb_toNat _ (by omega)
theorem hexN_range (u : Nat) : ∀ x ∈ hexN u, 0 ≤ x ∧ x < 256 := by
  intro x hx
  obtain ⟨b, _, rfl⟩ := List.mem_map.1 hx
  have := b.toNat_lt
  omega
theorem hexDg_range (d : Nat) (h : d < 16) : 48 ≤ hexDg d ∧ hexDg d ≤ 102 := by unfold hexDg; split <;> omega
theorem strHex (u : Nat) : (⟨(hexB u).toArray⟩ : ByteArray) = strOfNums (hexN u) := by
  apply bytesOf_inj
  rw [bytesOf_strOfNums _ (hexN_range u), bytesOf_mk]; rfl
theorem tdiv_16 (u : Nat) (hu : u ≤ 9223372036854775807) : wrap64 (Int.tdiv (u : Int) 16) = ((u / 16 : Nat) : Int) := by
  rw [Int.tdiv_eq_ediv_of_nonneg (by omega), wrap_id (by omega) (by omega)]
  omega
theorem tmod_16 (u : Nat) (hu : u ≤ 9223372036854775807) : Int.tmod (u : Int) 16 = ((u % 16 : Nat) : Int) := by
  rw [Int.tmod_eq_emod_of_nonneg (by omega)]; omega

theorem hexDig_eq (d : Nat) (h : d < 16) : spec_l1HexDigit.f ((d : Nat) : Int) = some (hexDg d) := by
  unfold spec_l1HexDigit.f hexDg
  by_cases h9 : d < 10
  · rw [if_pos (by omega), if_pos h9, wrap_id (by omega) (by omega)]; congr 1; omega
  · rw [if_neg (by omega), if_neg h9, wrap_id (x := 97 + (d : Int)) (by omega) (by omega), wrap_id (by omega) (by omega)]; congr 1; omega
theorem spec_Hex_l0 : ∀ (n u : Nat) (x : ByteArray), u < 16 ^ (n + 1) → u ≤ 9223372036854775807 → x.size ≤ 1000 - n → n ≤ 20 → bytesOf x = (hexN u).drop ((hexN u).length - 1) ++ (bytesOf x).drop 1 → Ev (fun k => spec_Hex.l0 k (u : Int) x) (strOfNums (hexN u ++ (bytesOf x).drop 1))
  | 0, u, x, h, hu, hx, hn, hb => by
    have h9 : u ≤ 15 := by omega
    apply ev_succ
    simp only [spec_Hex.l0, if_neg (show ¬ (u : Int) > 15 by omega)]
    rw [hexN_low u h9] at hb ⊢
    simp only [List.length_cons, List.length_nil, List.drop_zero, Nat.zero_add, Nat.sub_self] at hb
    rw [← hb, strOfNums_bytesOf]
    exact Ev.now _
  | n + 1, u, x, h, hu, hx, hn, hb => by
    apply ev_succ
    rcases Nat.lt_or_ge 15 u with h9 | h9
    · have hd := hexDg_range (u / 16 % 16) (Nat.mod_lt _ (by decide))
      have hy : bytesOf (strOfNums [hexDg (u / 16 % 16)]) = [hexDg (u / 16 % 16)] := bytesOf_strOfNums _ (by intro z hz; simp at hz; omega)
      have hs1 : (strOfNums [hexDg (u / 16 % 16)]).size = 1 := by rw [size_len, hy]; rfl
      simp only [spec_Hex.l0, if_pos (show (u : Int) > 15 by omega), tdiv_16 u hu, tmod_16 (u / 16) (by omega), hexDig_eq _ (Nat.mod_lt _ (by decide : 0 < 16)), Option.bind_some, hs1, if_pos (show 1 + x.size ≤ 9223372036854775807 by omega)]
      have e : bytesOf (strOfNums [hexDg (u / 16 % 16)] ++ x) = hexDg (u / 16 % 16) :: bytesOf x := by rw [bytesOf_append, hy]; rfl
      have ih := spec_Hex_l0 n (u / 16) (strOfNums [hexDg (u / 16 % 16)] ++ x) (by rw [Nat.pow_succ] at h; omega) (by omega) (by rw [ByteArray.size_append, hs1]; omega) (by omega) (by
        rw [e]
        simp only [List.drop_succ_cons, List.drop_zero]
        rcases Nat.lt_or_ge 15 (u / 16) with h10 | h10
        · rw [hexN_step (u / 16) h10]
          simp
        · rw [hexN_low (u / 16) h10, Nat.mod_eq_of_lt (by omega)]
          simp)
      rw [e] at ih
      simp only [List.drop_succ_cons, List.drop_zero] at ih
      rw [hexN_step u h9] at hb ⊢
      simp only [List.length_append, List.length_cons, List.length_nil, Nat.zero_add, Nat.add_sub_cancel, List.drop_left] at hb
      rw [List.append_assoc, ← hb]
      exact ih
    · simp only [spec_Hex.l0, if_neg (show ¬ (u : Int) > 15 by omega)]
      rw [hexN_low u h9] at hb ⊢
      simp only [List.length_cons, List.length_nil, List.drop_zero, Nat.zero_add, Nat.sub_self] at hb
      rw [← hb, strOfNums_bytesOf]
      exact Ev.now _
theorem spec_Hex_j0 (u : Nat) (hu : u ≤ 9223372036854775807) : Ev (fun k => spec_Hex.j0 k (u : Int)) (strOfNums (hexN u)) := by
  apply ev_succ
  simp only [spec_Hex.j0, tmod_16 u hu, hexDig_eq _ (Nat.mod_lt _ (by decide : 0 < 16)), Option.bind_some]
  have hd := hexDg_range (u % 16) (Nat.mod_lt _ (by decide))
  have hy : bytesOf (strOfNums [hexDg (u % 16)]) = [hexDg (u % 16)] := bytesOf_strOfNums _ (by intro z hz; simp at hz; omega)
  have hs1 : (strOfNums [hexDg (u % 16)]).size = 1 := by rw [size_len, hy]; rfl
  have := spec_Hex_l0 18 u (strOfNums [hexDg (u % 16)]) (by omega) hu (by omega) (by omega) (by
    rw [hy]
    rcases Nat.lt_or_ge 15 u with h9 | h9
    · rw [hexN_step u h9]; simp
    · rw [hexN_low u h9, Nat.mod_eq_of_lt (by omega)]; simp)
  rw [hy] at this
  simpa using this
theorem spec_Hex_ev (n : Int) (hn : n ≤ 9223372036854775807) : Ev (fun k => spec_Hex.f k n) (strOfNums (hexN n.toNat)) := by
  unfold spec_Hex.f
  refine ev_ite (fun h => ?_) (fun h => ?_)
  · rw [show n.toNat = 0 from by omega]
    exact spec_Hex_j0 0 (by omega)
  · have := spec_Hex_j0 n.toNat (by omega)
    rwa [Int.toNat_of_nonneg (by omega)] at this
theorem impl_Hex_eq (n : Int) (hn : n ≤ 9223372036854775807) : impl_Hex.f n = some (strOfNums (hexN n.toNat)) := by
  have e : mx n 0 = ((n.toNat : Nat) : Int) := by unfold mx; split <;> omega
  unfold impl_Hex.f
  rw [e]
  unfold strconv_FormatInt.f
  rw [if_pos ⟨by omega, by omega, rfl⟩, Option.bind_some, Int.toNat_natCast, strHex]

theorem snB_all : ∀ (l : List Int) (i : Nat), snB i l = true → ∀ c ∈ l, smallC c = true ∨ digitC c = true ∨ c = 45
  | [], _, _, c, h => by cases h
  | d :: r, i, h, c, hc => by
    simp only [snB, Bool.and_eq_true] at h
    rcases List.mem_cons.1 hc with rfl | hc
    · have := h.1
      simp only [snC, Bool.or_eq_true, Bool.and_eq_true, decide_eq_true_eq] at this
      rcases this with h | ⟨_, h | h⟩
      · exact .inl h
      · exact .inr (.inl h)
      · exact .inr (.inr h)
    · exact snB_all r (i + 1) h.2 c hc
theorem small_plain (s : ByteArray) (h : smallName s = true) : plainB (bytesOf s) = true ∧ lower s = s := by
  simp only [smallName, Bool.and_eq_true] at h
  have hall := snB_all _ 0 h.1
  have hc : ∀ c ∈ bytesOf s, 45 ≤ c ∧ c ≤ 122 ∧ ¬ (65 ≤ c ∧ c ≤ 90) := fun c hc => by
    have := hall c hc
    simp only [smallC, digitC, Bool.and_eq_true, decide_eq_true_eq] at this
    omega
  constructor
  · rw [plainB, List.all_eq_true]
    intro c hcm
    have := hc c hcm
    simp only [plainC, Bool.and_eq_true, decide_eq_true_eq]
    omega
  · unfold lower lowL
    rw [show (bytesOf s).map lowC = bytesOf s from ?_, strOfNums_bytesOf]
    conv => rhs; rw [← List.map_id (bytesOf s)]
    refine List.map_congr_left fun c hcm => ?_
    have := hc c hcm
    unfold lowC
    rw [if_neg]
    · rfl
    · simp only [largeC, Bool.and_eq_true, decide_eq_true_eq]; omega
theorem FnKinds : laws_FnKinds.Pure := by
  intro l _ _
  apply Ev.rounds
  unfold laws_FnKinds.f laws_big.f
  simp only [Option.bind_some]
  refine ev_iteB (fun _ => Ev.now _) (fun q => ?_)
  have hl : l.length ≤ 1048576 := by
    have := of_decide_eq_false q
    omega
  obtain ⟨h, hn⟩ := l1New_ev l hl
  obtain ⟨s, i1, e1, f1, p1, a1, b1⟩ := l1Text_dr l 0 h hl (by omega) (by omega)
  obtain ⟨n, i2, e2, f2, p2, a2, b2⟩ := l1Num_dr l 0 h hl (by omega) (by omega)
  have es : Ev (fun k => spec_DrawPlain.f k l) s := by
    unfold spec_DrawPlain.f; refine Ev.bind hn ?_; simp only [f1, Option.bind_some]; exact Ev.now _
  have et : Ev (fun k => spec_DrawSmallName.f k l) s := by
    unfold spec_DrawSmallName.f; refine Ev.bind hn ?_; simp only [f1, Option.bind_some]; exact Ev.now _
  have en : Ev (fun k => spec_DrawNumText.f k l) n := by
    unfold spec_DrawNumText.f; refine Ev.bind hn ?_; simp only [f2, Option.bind_some]; exact Ev.now _
  have eh : Ev (fun k => spec_DrawHex.f k l) n := by
    unfold spec_DrawHex.f; refine Ev.bind hn ?_; simp only [f2, Option.bind_some]; exact Ev.now _
  have h1 := impl_Plain_ev s (by omega)
  have h2 := spec_Plain_ev s (by omega)
  have h3 := impl_SmallName_ev s (by omega)
  have h4 := spec_SmallName_ev s (by omega)
  have h5 := impl_Lower_ev s (by omega)
  have h6 : Ev (fun _ : Nat => impl_NumText.f n) (strOfNums (numD n.toNat)) := Ev.congr (fun _ => impl_NumText_eq n p2.2) (Ev.now _)
  have h7 := spec_NumText_ev n p2.2
  have h8 : Ev (fun _ : Nat => impl_Hex.f n) (strOfNums (hexN n.toNat)) := Ev.congr (fun _ => impl_Hex_eq n p2.2) (Ev.now _)
  have h9 := spec_Hex_ev n p2.2
  refine Ev.bind es (Ev.bind et (Ev.bind en (Ev.bind eh (Ev.bind h1 (Ev.bind h2 ?_)))))
  simp only [beq_self_eq_true, if_true]
  refine Ev.bind h3 (Ev.bind h4 ?_)
  simp only [beq_self_eq_true, if_true]
  refine Ev.bind h3 ?_
  have fin : Ev (fun k => (impl_NumText.f n).bind fun t => (spec_NumText.f k n).bind fun u => if t.toList = u.toList then ((impl_Hex.f n).bind fun t1 => (spec_Hex.f k n).bind fun u1 => some (t1.toList == u1.toList)) else some false) true := by
    refine Ev.bind h6 (Ev.bind h7 ?_)
    simp only [if_true]
    refine Ev.bind h8 (Ev.bind h9 ?_)
    simpa using Ev.now true
  refine ev_iteB (fun hs => ?_) (fun _ => fin)
  have hsp := small_plain s hs
  rw [hsp.1] at h1
  rw [hsp.2] at h5
  refine Ev.bind h1 ?_
  simp only [if_true]
  refine Ev.bind h5 ?_
  simp only [if_true]
  exact fin

end Go.Proofs.YtgfpiijpgpkoiaaDoor.Pure
