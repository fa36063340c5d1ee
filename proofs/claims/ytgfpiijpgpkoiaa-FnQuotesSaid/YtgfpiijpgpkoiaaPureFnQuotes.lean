/- Drawn bytes come back quoted, plainly, and what is unquoted is as the reference has it, for all codes; no condition. -/
import Derived.Test.YtgfpiijpgpkoiaaGFnQuotesx5
import Derived.Test.YtgfpiijpgpkoiaaBase
import Derived.Lib.Bytealg
namespace Go.Proofs.Ytgfpiijpgpkoiaa.Pure
open Go.RowKit Go.Proofs.Ytgfpiijpgpkoiaa.GFnQuotes Go.Proofs.Ytgfpiijpgpkoiaa.Base Go.Proofs.YtgfpiijpgpkoiaaW.PrintWords Go.Proofs.YtgfpiijpgpkoiaaW.PrintLast
set_option linter.unusedVariables false
set_option linter.unusedSimpArgs false

/-! what is drawn: something, with what is known of it -/
theorem bits255 (x : Int) : 0 ≤ Go.bits .and .i64 x 255 ∧ Go.bits .and .i64 x 255 ≤ 255 := by
  have h2 : (BitVec.ofInt 64 x).toNat &&& 255 ≤ 255 := Nat.and_le_right
  have h : Go.bits .and .i64 x 255 = IntKind.i64.wrap (((BitVec.ofInt 64 x &&& BitVec.ofInt 64 255).toNat : Nat) : Int) := rfl
  have e : (BitVec.ofInt 64 255).toNat = 255 := by decide
  rw [h, BitVec.toNat_and, e, IntKind.wrap_i64]
  omega
def Dr {α : Type} (f : List Int → Int → Int → Option (α × Int × Int)) (P : α → Prop) : Prop :=
  ∀ (b : List Int) (i h : Int), b.length ≤ 1048576 → 0 ≤ i → i ≤ b.length → ∃ x i' h', f b i h = some (x, i', h') ∧ P x ∧ 0 ≤ i' ∧ i' ≤ b.length
def DrE {α : Type} (f : Nat → List Int → Int → Int → Option (α × Int × Int)) (P : α → Prop) : Prop :=
  ∀ (b : List Int) (i h : Int), b.length ≤ 1048576 → 0 ≤ i → i ≤ b.length → ∃ x i' h', Ev (fun k => f k b i h) (x, i', h') ∧ P x ∧ 0 ≤ i' ∧ i' ≤ b.length
theorem l1New_ev (l : List Int) (hl : l.length ≤ 1048576) : ∃ h, Ev (fun k => spec_l1New.f k l) (l, (0 : Int), h) := by
  have key : ∀ n i (x : Int), l.length - i = n → ∃ h, Ev (fun k => spec_l1New.l0 k l x (i : Int)) (l, (0 : Int), h) := by
    intro n
    induction n with
    | zero =>
      intro i x hn
      refine ⟨x, ?_⟩
      apply ev_succ; simp only [spec_l1New.l0, if_neg (show ¬ (i : Int) < (l.length : Int) by omega)]; exact Ev.now _
    | succ n ih =>
      intro i x hn
      by_cases h4 : (i : Int) < 4000
      · obtain ⟨h, hh⟩ := ih (i + 1) (Go.bits .and .i64 (wrap64 ((wrap64 ((wrap64 (x * 137)) + (wrap64 (rd l i)))) + 11)) 1073741823) (by omega)
        refine ⟨h, ?_⟩
        apply ev_succ
        simp only [spec_l1New.l0, if_pos (show (i : Int) < (l.length : Int) by omega), if_pos h4, if_pos (show (0 : Int) ≤ (i : Int) by omega), wrap_id (x := (i : Int) + 1) (by omega) (by omega)]
        exact hh
      · refine ⟨x, ?_⟩
        apply ev_succ; simp only [spec_l1New.l0, if_pos (show (i : Int) < (l.length : Int) by omega), if_neg h4]; exact Ev.now _
  exact key _ 0 _ rfl
theorem l1Byte_dr : Dr spec_l1Byte.f (fun x => 0 ≤ x ∧ x ≤ 255) := by
  intro b i h hb h0 h1
  unfold spec_l1Byte.f
  by_cases q : i < (b.length : Int)
  · rw [if_pos q, if_pos h0]
    exact ⟨_, _, _, rfl, bits255 _, by rw [wrap_id (by omega) (by omega)]; omega, by rw [wrap_id (by omega) (by omega)]; omega⟩
  · rw [if_neg q]
    exact ⟨_, _, _, rfl, bits255 _, h0, h1⟩
theorem tmod_range (x n : Int) (hx : 0 ≤ x) (hn : 0 < n) : 0 ≤ Int.tmod x n ∧ Int.tmod x n < n := by
  rw [Int.tmod_eq_emod_of_nonneg hx]
  exact ⟨Int.emod_nonneg _ (by omega), Int.emod_lt_of_pos _ hn⟩
theorem l1Below_dr (n : Int) : Dr (fun b i h => spec_l1Below.f b i h n) (fun x => 0 ≤ x ∧ (0 < n → x < n)) := by
  intro b i h hb h0 h1
  show ∃ x i' h', spec_l1Below.f b i h n = some (x, i', h') ∧ _
  unfold spec_l1Below.f
  by_cases q : n ≤ 0
  · rw [if_pos q]
    exact ⟨_, _, _, rfl, ⟨by omega, by omega⟩, h0, h1⟩
  · rw [if_neg q]
    obtain ⟨x, i1, e1, f1, p1, a1, b1⟩ := l1Byte_dr b i h hb h0 h1
    by_cases q1 : n ≤ 256
    · rw [if_pos q1, f1]
      simp only [Option.bind_some, if_neg (show ¬ n = 0 by omega)]
      have := tmod_range x n p1.1 (by omega)
      exact ⟨_, _, _, rfl, ⟨this.1, fun _ => this.2⟩, a1, b1⟩
    · rw [if_neg q1, f1]
      obtain ⟨y, i2, e2, f2, p2, a2, b2⟩ := l1Byte_dr b i1 e1 hb a1 b1
      obtain ⟨z, i3, e3, f3, p3, a3, b3⟩ := l1Byte_dr b i2 e2 hb a2 b2
      simp only [Option.bind_some, f2, f3, if_neg (show ¬ n = 0 by omega)]
      rw [wrap_id (x := x * 65536) (by omega) (by omega), wrap_id (x := y * 256) (by omega) (by omega), wrap_id (x := x * 65536 + y * 256) (by omega) (by omega), wrap_id (x := x * 65536 + y * 256 + z) (by omega) (by omega)]
      have := tmod_range (x * 65536 + y * 256 + z) n (by omega) (by omega)
      exact ⟨_, _, _, rfl, ⟨this.1, fun _ => this.2⟩, a3, b3⟩

theorem l1Str_dr (l : List ByteArray) (hl : 0 < l.length) : Dr (fun b i h => spec_l1Str.f b i h l) (fun x => x ∈ l) := by
  intro b i h hb h0 h1
  obtain ⟨x, i1, e1, f1, p1, a1, b1⟩ := l1Below_dr (l.length : Int) b i h hb h0 h1
  have f1' : spec_l1Below.f b i h (l.length : Int) = some (x, i1, e1) := f1
  have hx := p1.2 (by omega)
  show ∃ x i' h', spec_l1Str.f b i h l = some (x, i', h') ∧ _
  unfold spec_l1Str.f
  rw [f1']
  simp only [Option.bind_some, if_pos p1.1, if_pos hx]
  refine ⟨_, _, _, rfl, ?_, a1, b1⟩
  have hn : x.toNat < l.length := by omega
  rw [rdOf, List.getD_eq_getElem?_getD, List.getElem?_eq_getElem hn]
  exact List.getElem_mem hn
theorem Dr.of_str {P : ByteArray → Prop} {l : List ByteArray} {f : List Int → Int → Int → Option (ByteArray × Int × Int)} (hf : ∀ b i h, f b i h = (spec_l1Str.f b i h l).bind fun t => some (t.1, t.2.1, t.2.2)) (hl : 0 < l.length) (hP : ∀ x ∈ l, P x) : Dr f P := by
  intro b i h hb h0 h1
  obtain ⟨x, i1, e1, f1, p1, a1, b1⟩ := l1Str_dr l hl b i h hb h0 h1
  have f1' : spec_l1Str.f b i h l = some (x, i1, e1) := f1
  rw [hf, f1']
  exact ⟨_, _, _, rfl, hP x p1, a1, b1⟩

theorem l1Text_dr : Dr spec_l1Text.f (fun x => x.size ≤ 30) := Dr.of_str (fun _ _ _ => rfl) (by decide) (by decide)

theorem l2Name_dr : Dr spec_l2Name.f (fun x => x.size ≤ 9) := Dr.of_str (fun _ _ _ => rfl) (by decide) (by decide)
def SmallP (n : Nat) (p : List ByteArray) : Prop := p.length ≤ n ∧ ∀ x ∈ p, x.size ≤ 9
theorem SmallP.snoc {n : Nat} {p : List ByteArray} {x : ByteArray} (h : SmallP n p) (hx : x.size ≤ 9) : SmallP (n + 1) (p ++ [x]) :=
  ⟨by simp; exact h.1, fun y hy => by rcases List.mem_append.1 hy with hy | hy; exact h.2 y hy; simp at hy; rw [hy]; exact hx⟩
theorem l2Draw_dr : DrE spec_l2Draw.f (SmallP 3) := by
  have key : ∀ (n : Nat) (b : List Int) (p : List ByteArray) (i h : Int), b.length ≤ 1048576 → 0 ≤ i → i ≤ b.length → n ≤ 3 → SmallP (3 - n) p →
      ∃ x i' h', Ev (fun k => spec_l2Draw.l0 k p (n : Int) b i h) (x, i', h') ∧ SmallP 3 x ∧ 0 ≤ i' ∧ i' ≤ b.length := by
    intro n
    induction n with
    | zero =>
      intro b p i h hb h0 h1 hn hp
      refine ⟨p, i, h, ?_, hp, h0, h1⟩
      apply ev_succ; simp only [spec_l2Draw.l0, if_neg (show ¬ ((0 : Nat) : Int) > 0 by omega)]; exact Ev.now _
    | succ n ih =>
      intro b p i h hb h0 h1 hn hp
      obtain ⟨x, i1, e1, f1, p1, a1, b1⟩ := l2Name_dr b i h hb h0 h1
      have hp1 := hp.snoc p1
      rw [show 3 - (n + 1) + 1 = 3 - n by omega] at hp1
      obtain ⟨y, i2, e2, f2, r2⟩ := ih b (p ++ [x]) i1 e1 hb a1 b1 (by omega) hp1
      refine ⟨y, i2, e2, ?_, r2⟩
      have hl := hp.1
      apply ev_succ
      simp only [spec_l2Draw.l0, if_pos (show ((n + 1 : Nat) : Int) > 0 by omega), f1, Option.bind_some, if_pos (show p.length < 8796093022208 by omega), wrap_id (x := ((n + 1 : Nat) : Int) - 1) (by omega) (by omega)]
      rw [show ((n + 1 : Nat) : Int) - 1 = (n : Int) by omega]
      exact f2
  intro b i h hb h0 h1
  obtain ⟨x, i1, e1, f1, p1, a1, b1⟩ := l1Below_dr 4 b i h hb h0 h1
  have f1' : spec_l1Below.f b i h 4 = some (x, i1, e1) := f1
  have hx := p1.2 (by omega)
  obtain ⟨y, i2, e2, f2, r2⟩ := key x.toNat b [] i1 e1 hb a1 b1 (by omega) ⟨by simp, by simp⟩
  refine ⟨y, i2, e2, ?_, r2⟩
  unfold spec_l2Draw.f
  simp only [f1', Option.bind_some]
  rw [Int.toNat_of_nonneg p1.1] at f2
  exact f2
theorem l2Any_dr : DrE spec_l2Any.f (SmallP 5) := by
  have key : ∀ (n : Nat) (b : List Int) (p : List ByteArray) (i h : Int), b.length ≤ 1048576 → 0 ≤ i → i ≤ b.length → p.length + n = 5 → SmallP 5 p →
      ∃ x i' h', Ev (fun k => spec_l2Any.l0 k p b i h) (x, i', h') ∧ SmallP 5 x ∧ 0 ≤ i' ∧ i' ≤ b.length := by
    intro n
    induction n with
    | zero =>
      intro b p i h hb h0 h1 hn hp
      obtain ⟨x, i1, e1, f1, p1, a1, b1⟩ := l1Below_dr 2 b i h hb h0 h1
      have f1' : spec_l1Below.f b i h 2 = some (x, i1, e1) := f1
      have hx := p1.2 (by omega)
      have hx0 := p1.1
      refine ⟨p, i1, e1, ?_, hp, a1, b1⟩
      apply ev_succ
      simp only [spec_l2Any.l0, f1', Option.bind_some, wrap_id (x := 4 + x) (by omega) (by omega), if_neg (show ¬ (p.length : Int) < 4 + x by omega)]
      exact Ev.now _
    | succ n ih =>
      intro b p i h hb h0 h1 hn hp
      obtain ⟨x, i1, e1, f1, p1, a1, b1⟩ := l1Below_dr 2 b i h hb h0 h1
      have f1' : spec_l1Below.f b i h 2 = some (x, i1, e1) := f1
      have hx := p1.2 (by omega)
      have hx0 := p1.1
      by_cases q : (p.length : Int) < 4 + x
      · obtain ⟨y, i2, e2, f2, r2⟩ := ih b (p ++ [(⟨#[113]⟩ : ByteArray)]) i1 e1 hb a1 b1 (by simp; omega) ⟨by simp; omega, fun y hy => by rcases List.mem_append.1 hy with hy | hy; exact hp.2 y hy; simp at hy; rw [hy]; decide⟩
        refine ⟨y, i2, e2, ?_, r2⟩
        apply ev_succ
        simp only [spec_l2Any.l0, f1', Option.bind_some, wrap_id (x := 4 + x) (by omega) (by omega), if_pos q, if_pos (show p.length < 8796093022208 by omega)]
        exact f2
      · refine ⟨p, i1, e1, ?_, hp, a1, b1⟩
        apply ev_succ
        simp only [spec_l2Any.l0, f1', Option.bind_some, wrap_id (x := 4 + x) (by omega) (by omega), if_neg q]
        exact Ev.now _
  intro b i h hb h0 h1
  obtain ⟨p, i1, e1, f1, p1, a1, b1⟩ := l2Draw_dr b i h hb h0 h1
  obtain ⟨x, i2, e2, f2, p2, a2, b2⟩ := l1Below_dr 8 b i1 e1 hb a1 b1
  have f2' : spec_l1Below.f b i1 e1 8 = some (x, i2, e2) := f2
  have hl := p1.1
  by_cases q : x = 0
  · obtain ⟨y, i3, e3, f3, p3, a3, b3⟩ := l1Str_dr [(⟨#[]⟩ : ByteArray), (⟨#[46]⟩ : ByteArray), (⟨#[46, 46]⟩ : ByteArray), (⟨#[97, 47, 98]⟩ : ByteArray), (⟨#[110, 105, 110, 101, 98, 121, 116, 101, 115]⟩ : ByteArray), (⟨#[31]⟩ : ByteArray), (⟨#[101, 105, 103, 104, 116, 98, 121, 56]⟩ : ByteArray)] (by decide) b i2 e2 hb a2 b2
    have f3' : spec_l1Str.f b i2 e2 _ = some (y, i3, e3) := f3
    have hy : y.size ≤ 9 := (by decide : ∀ x ∈ _, x.size ≤ 9) y p3
    refine ⟨p ++ [y], i3, e3, ?_, ?_, a3, b3⟩
    · unfold spec_l2Any.f
      refine Ev.bind f1 ?_
      simp only [f2', Option.bind_some, if_pos q, f3', if_pos (show p.length < 8796093022208 by omega)]
      exact Ev.now _
    · have := p1.snoc hy
      exact ⟨by have := this.1; omega, this.2⟩
  · by_cases q1 : x = 1
    · obtain ⟨y, i3, e3, f3, r3⟩ := key (5 - p.length) b p i2 e2 hb a2 b2 (by omega) ⟨by omega, p1.2⟩
      refine ⟨y, i3, e3, ?_, r3⟩
      unfold spec_l2Any.f
      refine Ev.bind f1 ?_
      simp only [f2', Option.bind_some, if_neg q, if_pos q1]
      exact f3
    · refine ⟨p, i2, e2, ?_, ⟨by omega, p1.2⟩, a2, b2⟩
      unfold spec_l2Any.f
      refine Ev.bind f1 ?_
      simp only [f2', Option.bind_some, if_neg q, if_neg q1]
      exact Ev.now _

theorem l1Once_dr (n : Int) : Dr (fun b i h => spec_l1Once.f b i h n) (fun _ => True) := by
  intro b i h hb h0 h1
  obtain ⟨x, i1, e1, f1, p1, a1, b1⟩ := l1Below_dr n b i h hb h0 h1
  have f1' : spec_l1Below.f b i h n = some (x, i1, e1) := f1
  show ∃ x i' h', spec_l1Once.f b i h n = some (x, i', h') ∧ _
  unfold spec_l1Once.f
  rw [f1']
  exact ⟨_, _, _, rfl, trivial, a1, b1⟩

/-- byte classes -/
def plainC (c : Int) : Bool := decide (32 ≤ c) && decide (c ≤ 126)
def smallC (c : Int) : Bool := decide (97 ≤ c) && decide (c ≤ 122)
def digitC (c : Int) : Bool := decide (48 ≤ c) && decide (c ≤ 57)
def largeC (c : Int) : Bool := decide (65 ≤ c) && decide (c ≤ 90)

theorem isSmall_eq (c : Int) : impl_isSmall.f c = some (smallC c) := by
  unfold impl_isSmall.f smallC; split <;> simp [*] <;> omega

theorem isLarge_eq (c : Int) : impl_isLarge.f c = some (largeC c) := by
  unfold impl_isLarge.f largeC; split <;> simp [*] <;> omega

theorem isDigit_eq (c : Int) : impl_isDigit.f c = some (digitC c) := by
  unfold impl_isDigit.f digitC; split <;> simp [*] <;> omega

theorem l1In_eq (c a b : Int) : spec_l1In.f c a b = some (decide (a ≤ c) && decide (c ≤ b)) := by
  unfold spec_l1In.f; split <;> simp [*] <;> omega

theorem l1Small_eq (c : Int) (h : wrap64 c = c) : spec_l1Small.f c = some (smallC c) := by
  unfold spec_l1Small.f; rw [h, l1In_eq]; rfl

theorem l1Large_eq (c : Int) (h : wrap64 c = c) : spec_l1Large.f c = some (largeC c) := by
  unfold spec_l1Large.f; rw [h, l1In_eq]; rfl

theorem l1Digit_eq (c : Int) (h : wrap64 c = c) : spec_l1Digit.f c = some (digitC c) := by
  unfold spec_l1Digit.f; rw [h, l1In_eq]; rfl

def freeC (c : Int) : Bool := smallC c || (largeC c || (digitC c || (decide (c = 45) || (decide (c = 46) || (decide (c = 95) || decide (c = 126))))))
def hexD (n : Int) : Int := if n < 10 then 48 + n else 55 + n
def quoC (c : Int) : List Int := if freeC c = true then [c] else [37, hexD (c / 16), hexD (c % 16)]
def quoL (l : List Int) : List Int := l.flatMap quoC
theorem quoC_len (c : Int) : (quoC c).length ≤ 3 := by unfold quoC; split <;> simp
theorem bits15 (c : Int) (h0 : 0 ≤ c) (h1 : c < 256) : Go.bits .and .u8 c 15 = c % 16 := by
  have H : ∀ n : Fin 256, Go.bits .and .u8 (n.val : Int) 15 = (n.val : Int) % 16 := by decide +kernel
  have := H ⟨c.toNat, by omega⟩
  have e : ((c.toNat : Nat) : Int) = c := by omega
  simpa only [e] using this
theorem digits_bt (n : Int) (h0 : 0 ≤ n) (h1 : n < 16) : bt (⟨#[48, 49, 50, 51, 52, 53, 54, 55, 56, 57, 65, 66, 67, 68, 69, 70]⟩ : ByteArray) n = hexD n := by
  have H : ∀ n : Fin 16, bt (⟨#[48, 49, 50, 51, 52, 53, 54, 55, 56, 57, 65, 66, 67, 68, 69, 70]⟩ : ByteArray) (n.val : Int) = hexD (n.val : Int) := by decide +kernel
  have := H ⟨n.toNat, by omega⟩
  have e : ((n.toNat : Nat) : Int) = n := by omega
  simpa only [e] using this
theorem index4 (c : Int) (h0 : 0 ≤ c) (h1 : c < 256) : (Lib.indexByte (⟨#[45, 46, 95, 126]⟩ : ByteArray).data.toList c.toNat.toUInt8 ≥ 0) ↔ (c = 45 ∨ c = 46 ∨ c = 95 ∨ c = 126) := by
  have H : ∀ n : Fin 256, (decide (Lib.indexByte (⟨#[45, 46, 95, 126]⟩ : ByteArray).data.toList n.val.toUInt8 ≥ 0)) = decide ((n.val : Int) = 45 ∨ (n.val : Int) = 46 ∨ (n.val : Int) = 95 ∨ (n.val : Int) = 126) := by decide +kernel
  have := H ⟨c.toNat, by omega⟩
  have e : ((c.toNat : Nat) : Int) = c := by omega
  simp only [e] at this
  exact decide_eq_decide.mp this
theorem impl_Quote_l0 {s : ByteArray} (hs : s.size ≤ 1048576) : ∀ (i : Nat) (x : List Int), x.length ≤ 3 * i → Ev (fun k => impl_Quote.l0 k s x (i : Int)) (strOfNums (x ++ quoL ((bytesOf s).drop i))) := by
  refine str_loop_st s (fun i x k => impl_Quote.l0 k s x (i : Int)) (fun i x r => strOfNums (x ++ quoL r)) (fun i x _ => x.length ≤ 3 * i) ?_ ?_ (by omega)
  · intro i x _ hi
    apply ev_succ; simp only [impl_Quote.l0, if_neg (show ¬ (i : Int) < s.size by omega)]
    simpa [quoL] using Ev.now (strOfNums x)
  · intro i x c r hx h hb hi hw hw1 ih
    have hc := bytesOf_range s c (List.mem_of_mem_drop (by rw [h]; simp : c ∈ (bytesOf s).drop i))
    have fin : ∀ y : List Int, y = quoC c → Ev (fun k => impl_Quote.l0 k s (x ++ y) ((i + 1 : Nat) : Int)) (strOfNums (x ++ quoL (c :: r))) := by
      intro y hy
      have h3 := quoC_len c
      have := ih (x ++ y) (by rw [List.length_append, hy]; omega)
      rw [List.append_assoc] at this
      simpa [quoL, hy] using this
    have g1 : x.length < 140737488355328 := by omega
    have g2 : x.length + (0 + 1 + 1 + 1) < 140737488355328 := by omega
    have d0 : 0 ≤ c / 16 := by omega
    have d1 : c / 16 < 16 := by omega
    have e0 : 0 ≤ c % 16 := by omega
    have e1 : c % 16 < 16 := by omega
    apply ev_succ
    simp only [impl_Quote.l0, if_pos (show (i : Int) < s.size by omega), if_pos (show (0 : Int) ≤ i by omega), hb, hw1, isSmall_eq, isLarge_eq, isDigit_eq, Option.bind_some, if_pos g1, strings_IndexByte.f, index4 c hc.1 hc.2, bits15 c hc.1 hc.2, if_pos d0, if_pos d1, if_pos e0, if_pos e1, digits_bt _ d0 d1, digits_bt _ e0 e1, List.length_cons, List.length_nil]
    refine ev_iteB (fun q => fin _ ?_) (fun q => ev_iteB (fun q0 => fin _ ?_) (fun q0 => ev_iteB (fun q1 => fin _ ?_) (fun q1 => ev_ite (fun q2 => fin _ ?_) (fun q2 => ?_))))
    · simp [quoC, freeC, q]
    · simp [quoC, freeC, q0]
    · simp [quoC, freeC, q1]
    · rcases q2 with rfl | rfl | rfl | rfl <;> rfl
    · simp only [if_pos g2]
      refine fin _ ?_
      have hf : freeC c = false := by
        simp only [freeC, q, q0, q1, Bool.false_or, Bool.or_eq_false_iff, decide_eq_false_iff_not]
        exact ⟨fun e => q2 (.inl e), fun e => q2 (.inr (.inl e)), fun e => q2 (.inr (.inr (.inl e))), fun e => q2 (.inr (.inr (.inr e)))⟩
      simp [quoC, hf]
theorem impl_Quote_ev (s : ByteArray) (hs : s.size ≤ 1048576) : Ev (fun k => impl_Quote.f k s) (strOfNums (quoL (bytesOf s))) := impl_Quote_l0 hs 0 [] (by simp)
theorem l2Free_eq (c : Int) (hw : wrap64 c = c) : spec_l2Free.f c = some (freeC c) := by
  simp only [spec_l2Free.f, l1Small_eq c hw, l1Large_eq c hw, l1Digit_eq c hw, Option.bind_some, freeC]
  cases smallC c <;> cases largeC c <;> cases digitC c <;> simp
  by_cases a : c = 45 <;> by_cases b : c = 46 <;> by_cases d : c = 95 <;> first | (simp [a, b, d]; done) | (simp [a, b, d]; rfl)
theorem l2Digit_eq (n : Int) (h0 : 0 ≤ n) (h1 : n < 16) : spec_l2Digit.f n = some (hexD n) := by
  unfold spec_l2Digit.f hexD
  split
  · rw [wrap_id (by omega) (by omega)]; congr 1; omega
  · rw [wrap_id (x := 65 + n) (by omega) (by omega), wrap_id (by omega) (by omega)]; congr 1; omega
theorem spec_Quote_l0 {s : ByteArray} (hs : s.size ≤ 1048576) : ∀ (i : Nat) (x : List Int), x.length ≤ 3 * i → Ev (fun k => spec_Quote.l0 k s x (i : Int)) (strOfNums (x ++ quoL ((bytesOf s).drop i))) := by
  refine str_loop_st s (fun i x k => spec_Quote.l0 k s x (i : Int)) (fun i x r => strOfNums (x ++ quoL r)) (fun i x _ => x.length ≤ 3 * i) ?_ ?_ (by omega)
  · intro i x _ hi
    apply ev_succ; simp only [spec_Quote.l0, if_neg (show ¬ (i : Int) < s.size by omega)]
    simpa [quoL] using Ev.now (strOfNums x)
  · intro i x c r hx h hb hi hw hw1 ih
    have hc := bytesOf_range s c (List.mem_of_mem_drop (by rw [h]; simp : c ∈ (bytesOf s).drop i))
    have fin : ∀ y : List Int, y = quoC c → Ev (fun k => spec_Quote.l0 k s (x ++ y) ((i + 1 : Nat) : Int)) (strOfNums (x ++ quoL (c :: r))) := by
      intro y hy
      have h3 := quoC_len c
      have := ih (x ++ y) (by rw [List.length_append, hy]; omega)
      rw [List.append_assoc] at this
      simpa [quoL, hy] using this
    have g1 : x.length < 140737488355328 := by omega
    have g2 : x.length + (0 + 1 + 1 + 1) < 140737488355328 := by omega
    have d1 : wrap64 (Int.tdiv c 16) = c / 16 := by rw [Int.tdiv_eq_ediv_of_nonneg hc.1, wrap_id (by omega) (by omega)]
    have d2 : Int.tmod c 16 = c % 16 := Int.tmod_eq_emod_of_nonneg hc.1
    apply ev_succ
    simp only [spec_Quote.l0, if_pos (show (i : Int) < s.size by omega), if_pos (show (0 : Int) ≤ i by omega), hb, hw1, hw, l2Free_eq c hw, Option.bind_some, if_pos g1, d1, d2, l2Digit_eq (c / 16) (by omega) (by omega), l2Digit_eq (c % 16) (by omega) (by omega), List.length_cons, List.length_nil, if_pos g2]
    refine ev_iteB (fun q => fin _ ?_) (fun q => fin _ ?_)
    · simp [quoC, q]
    · simp [quoC, q]
theorem spec_Quote_ev (s : ByteArray) (hs : s.size ≤ 1048576) : Ev (fun k => spec_Quote.f k s) (strOfNums (quoL (bytesOf s))) := spec_Quote_l0 hs 0 [] (by simp)

/-- a digit's worth to the base 16, or -1 -/
def hexC (c : Int) : Int := if digitC c = true then c - 48 else if 97 ≤ c ∧ c ≤ 102 then c - 87 else if 65 ≤ c ∧ c ≤ 70 then c - 55 else -1
theorem hexC_range (c : Int) : -1 ≤ hexC c ∧ hexC c < 16 := by
  unfold hexC digitC
  split
  · rename_i h; simp at h; omega
  · split
    · omega
    · split <;> omega
theorem digitOf_ev (c : Int) (h0 : 0 ≤ c) (h1 : c < 256) : Ev (fun k => impl_digitOf.f k c) (hexC c) := by
  have H : ∀ k, impl_digitOf.f (k + 1) c = some (hexC c) := by
    intro k
    simp only [impl_digitOf.f, isDigit_eq, Option.bind_some, impl_digitOf.j0, hexC]
    by_cases a1 : 48 ≤ c <;> by_cases a2 : c ≤ 57 <;> by_cases a3 : 97 ≤ c <;> by_cases a4 : c ≤ 102 <;> by_cases a5 : 65 ≤ c <;> by_cases a6 : c ≤ 70
    all_goals first | (exfalso; omega) | (simp [digitC, a1, a2, a3, a4, a5, a6, ge_iff_le]; done) | (simp [digitC, a1, a2, a3, a4, a5, a6, ge_iff_le]; omega)
  exact Ev.step H (Ev.now _)
theorem l1HexOf_eq (c : Int) (h0 : 0 ≤ c) (h1 : c < 256) : spec_l1HexOf.f c = some (hexC c) := by
  have hw : wrap64 c = c := wrap_id (by omega) (by omega)
  simp only [spec_l1HexOf.f, l1Digit_eq c hw, Option.bind_some, hw, l1In_eq, hexC]
  by_cases q : digitC c = true
  · rw [if_pos q, if_pos q, wrap_id (by omega) (by omega)]
  · rw [if_neg q, if_neg q]
    by_cases q1 : 97 ≤ c ∧ c ≤ 102
    · rw [if_pos (by simpa using q1), if_pos q1, wrap_id (x := c - 97) (by omega) (by omega), wrap_id (by omega) (by omega)]; congr 1; omega
    · rw [if_neg (by simpa using q1), if_neg q1]
      by_cases q2 : 65 ≤ c ∧ c ≤ 70
      · rw [if_pos (by simpa using q2), if_pos q2, wrap_id (x := c - 65) (by omega) (by omega), wrap_id (by omega) (by omega)]; congr 1; omega
      · rw [if_neg (by simpa using q2), if_neg q2]

/-- what stands for bytes quoted; none: it is not right -/
def unq : List Int → Option (List Int)
  | [] => some []
  | [c] => if c = 37 then none else some [c]
  | [c, a] => if c = 37 then none else (unq [a]).map (c :: ·)
  | c :: a :: b :: r => if c = 37 then (if hexC a < 0 ∨ hexC b < 0 then none else (unq r).map ((hexC a * 16 + hexC b) :: ·)) else (unq (a :: b :: r)).map (c :: ·)
def unqR (acc : List Int) : Option (List Int) → ByteArray × Bool
  | some o => (strOfNums (acc ++ o), true)
  | none => (⟨#[]⟩, false)
def unquote (s : ByteArray) : ByteArray × Bool := unqR [] (unq (bytesOf s))
theorem unq_plain (c : Int) (r : List Int) (h : c ≠ 37) : unq (c :: r) = (unq r).map (c :: ·) := by
  match r with
  | [] => simp only [unq, if_neg h, Option.map_some]
  | [a] => simp only [unq, if_neg h]
  | a :: b :: r => rw [unq, if_neg h]
theorem unq_short (r : List Int) (h : r.length < 2) : unq (37 :: r) = none := by
  match r, h with
  | [], _ => rfl
  | [_], _ => rfl
theorem unq_bad (a b : Int) (r : List Int) (h : hexC a < 0 ∨ hexC b < 0) : unq (37 :: a :: b :: r) = none := by rw [unq, if_pos rfl, if_pos h]
theorem unq_good (a b : Int) (r : List Int) (h : ¬ (hexC a < 0 ∨ hexC b < 0)) : unq (37 :: a :: b :: r) = (unq r).map ((hexC a * 16 + hexC b) :: ·) := by rw [unq, if_pos rfl, if_neg h]
theorem unqR_cons (acc : List Int) (c : Int) (o : Option (List Int)) : unqR acc (o.map (c :: ·)) = unqR (acc ++ [c]) o := by
  cases o <;> simp [unqR]
/-- Strong induction over the bytes that are left. -/
theorem drop_rec {s : ByteArray} {P : Nat → List Int → Prop} (H : ∀ i rest, (bytesOf s).drop i = rest → (∀ j rest', (bytesOf s).drop j = rest' → i < j → j ≤ s.size → P j rest') → P i rest) : ∀ i rest, (bytesOf s).drop i = rest → P i rest := by
  have key : ∀ n i rest, s.size - i ≤ n → (bytesOf s).drop i = rest → P i rest := by
    intro n
    induction n with
    | zero => intro i rest hn h; exact H i rest h (fun j rest' hj hlt hle => by omega)
    | succ n ih => intro i rest hn h; exact H i rest h (fun j rest' hj hlt hle => ih j rest' (by omega) hj)
  exact fun i rest h => key _ i rest (Nat.le_refl _) h
theorem impl_Unquote_l0 {s : ByteArray} (hs : s.size ≤ 140737488351232) : ∀ i rest, (bytesOf s).drop i = rest → ∀ acc : List Int, acc.length ≤ i → Ev (fun k => impl_Unquote.l0 k s acc (i : Int)) (unqR acc (unq rest)) := by
  refine drop_rec ?_
  intro i rest h ih acc ha
  match rest, h with
  | [], h =>
    have hi := size_drop h
    apply ev_succ; simp only [impl_Unquote.l0, if_neg (show ¬ (i : Int) < s.size by omega)]
    have : unqR acc (unq []) = (strOfNums acc, true) := by simp [unq, unqR]
    rw [this]; exact Ev.now _
  | c :: r, h =>
    obtain ⟨hb, hi, hd⟩ := bt_drop h
    have hw1 := wrap_nat hs hi
    have hw2 : wrap64 ((i : Int) + 2) = ((i + 2 : Nat) : Int) := by rw [wrap_id (by omega) (by omega)]; rfl
    apply ev_succ
    simp only [impl_Unquote.l0, if_pos (show (i : Int) < s.size by omega), if_pos (show (0 : Int) ≤ i by omega), hb, hw1, hw2, if_pos (show acc.length < 140737488355328 by omega)]
    refine ev_ite (fun q => ?_) (fun q => ?_)
    · subst q
      have hl : s.size = i + 1 + r.length := by have := congrArg List.length h; rw [List.length_drop, bytesOf_length] at this; simp at this; omega
      match r, hd, hl with
      | [], hd, hl =>
        rw [unq_short _ (by simp)]; simp at hl
        simp only [if_pos (show ((i + 2 : Nat) : Int) ≥ s.size by omega)]; exact Ev.now _
      | [_], hd, hl =>
        rw [unq_short _ (by simp)]; simp at hl
        simp only [if_pos (show ((i + 2 : Nat) : Int) ≥ s.size by omega)]; exact Ev.now _
      | a :: b :: r', hd, hl =>
        simp at hl
        have g1 : ¬ ((i + 2 : Nat) : Int) ≥ s.size := by omega
        have g2 : (0 : Int) ≤ ((i + 1 : Nat) : Int) := by omega
        have g3 : ((i + 1 : Nat) : Int) < s.size := by omega
        have g4 : (0 : Int) ≤ ((i + 2 : Nat) : Int) := by omega
        have g5 : ((i + 2 : Nat) : Int) < s.size := by omega
        have hw3 : wrap64 (((i + 2 : Nat) : Int) + 1) = ((i + 3 : Nat) : Int) := by rw [wrap_id (by omega) (by omega)]; rfl
        have g6 : acc.length < 140737488355328 := by omega
        have g7 : i + 3 ≤ s.size := by omega
        obtain ⟨hb1, hi1, hd1⟩ := bt_drop hd
        obtain ⟨hb2, hi2, hd2⟩ := bt_drop hd1
        have ra := bytesOf_range s a (List.mem_of_mem_drop (by rw [hd]; simp : a ∈ (bytesOf s).drop (i + 1)))
        have rb := bytesOf_range s b (List.mem_of_mem_drop (by rw [hd1]; simp : b ∈ (bytesOf s).drop (i + 1 + 1)))
        have xa := hexC_range a; have xb := hexC_range b
        have hb2' : bt s ((i + 2 : Nat) : Int) = b := hb2
        simp only [if_neg g1, if_pos g2, if_pos g3, if_pos g4, if_pos g5, hb1, hb2', hw3]
        refine Ev.bind (digitOf_ev a ra.1 ra.2) (Ev.bind (digitOf_ev b rb.1 rb.2) (ev_ite (fun q1 => ?_) (fun q1 => ev_ite (fun q2 => ?_) (fun q2 => ?_))))
        · rw [unq_bad _ _ _ (.inl q1)]; exact Ev.now _
        · rw [unq_bad _ _ _ (.inr q2)]; exact Ev.now _
        · rw [unq_good _ _ _ (fun hh => hh.elim q1 q2), unqR_cons]
          have e : (wrap64 (wrap64 (16 * hexC a) + hexC b)) % 256 = hexC a * 16 + hexC b := by
            clear hb hb1 hb2 hb2' hw1 hw2 hw3
            rw [wrap_id (x := 16 * hexC a) (by omega) (by omega), wrap_id (by omega) (by omega)]; omega
          rw [e]
          have hd3 : (bytesOf s).drop (i + 3) = r' := hd2
          have hz := ih (i + 3) r' hd3 (by clear hb hb1 hb2 hb2' hw1 hw2 hw3; omega) g7 (acc ++ [hexC a * 16 + hexC b]) (by clear hb hb1 hb2 hb2' hw1 hw2 hw3; rw [List.length_append]; simp; omega)
          exact hz
    · rw [unq_plain _ _ q, unqR_cons]
      exact ih (i + 1) r hd (by omega) (by omega) _ (by simp; omega)
theorem impl_Unquote_ev (s : ByteArray) (hs : s.size ≤ 140737488351232) : Ev (fun k => impl_Unquote.f k s) (unquote s) := impl_Unquote_l0 hs 0 _ rfl [] (by simp)
theorem spec_Unquote_l0 {s : ByteArray} (hs : s.size ≤ 140737488351232) : ∀ i rest, (bytesOf s).drop i = rest → ∀ acc : List Int, acc.length ≤ i → Ev (fun k => spec_Unquote.l0 k s acc (i : Int)) (unqR acc (unq rest)) := by
  refine drop_rec ?_
  intro i rest h ih acc ha
  match rest, h with
  | [], h =>
    have hi := size_drop h
    apply ev_succ; simp only [spec_Unquote.l0, if_neg (show ¬ (i : Int) < s.size by omega)]
    have : unqR acc (unq []) = (strOfNums acc, true) := by simp [unq, unqR]
    rw [this]; exact Ev.now _
  | c :: r, h =>
    obtain ⟨hb, hi, hd⟩ := bt_drop h
    have hw1 := wrap_nat hs hi
    have hw2 : wrap64 ((i : Int) + 2) = ((i + 2 : Nat) : Int) := by rw [wrap_id (by omega) (by omega)]; rfl
    have jt : ∀ (a : List Int) (x : Int), Ev (fun k => spec_Unquote.j1 k s a x true) ((⟨#[]⟩ : ByteArray), false) := by
      intro a x; apply ev_succ; simp only [spec_Unquote.j1, if_true]; exact Ev.now _
    apply ev_succ
    simp only [spec_Unquote.l0, if_pos (show (i : Int) < s.size by omega), if_pos (show (0 : Int) ≤ i by omega), hb, hw1, hw2, if_pos (show acc.length < 140737488355328 by omega)]
    refine ev_ite (fun q => ?_) (fun q => ?_)
    · subst q
      have hl : s.size = i + 1 + r.length := by have := congrArg List.length h; rw [List.length_drop, bytesOf_length] at this; simp at this; omega
      match r, hd, hl with
      | [], hd, hl =>
        rw [unq_short _ (by simp)]; simp at hl
        simp only [if_pos (show ((i + 2 : Nat) : Int) ≥ s.size by omega)]; exact jt _ _
      | [_], hd, hl =>
        rw [unq_short _ (by simp)]; simp at hl
        simp only [if_pos (show ((i + 2 : Nat) : Int) ≥ s.size by omega)]; exact jt _ _
      | a :: b :: r', hd, hl =>
        simp at hl
        have g1 : ¬ ((i + 2 : Nat) : Int) ≥ s.size := by omega
        have g2 : (0 : Int) ≤ ((i + 1 : Nat) : Int) := by omega
        have g3 : ((i + 1 : Nat) : Int) < s.size := by omega
        have g4 : (0 : Int) ≤ ((i + 2 : Nat) : Int) := by omega
        have g5 : ((i + 2 : Nat) : Int) < s.size := by omega
        have hw3 : wrap64 (((i + 2 : Nat) : Int) + 1) = ((i + 3 : Nat) : Int) := by rw [wrap_id (by omega) (by omega)]; rfl
        have g6 : acc.length < 140737488355328 := by omega
        have g7 : i + 3 ≤ s.size := by omega
        obtain ⟨hb1, hi1, hd1⟩ := bt_drop hd
        obtain ⟨hb2, hi2, hd2⟩ := bt_drop hd1
        have ra := bytesOf_range s a (List.mem_of_mem_drop (by rw [hd]; simp : a ∈ (bytesOf s).drop (i + 1)))
        have rb := bytesOf_range s b (List.mem_of_mem_drop (by rw [hd1]; simp : b ∈ (bytesOf s).drop (i + 1 + 1)))
        have xa := hexC_range a; have xb := hexC_range b
        have hb2' : bt s ((i + 2 : Nat) : Int) = b := hb2
        simp only [if_neg g1, if_pos g2, if_pos g3, if_pos g4, if_pos g5, hb1, hb2', l1HexOf_eq a ra.1 ra.2, l1HexOf_eq b rb.1 rb.2, Option.bind_some]
        refine ev_ite (fun q1 => ?_) (fun q1 => ?_)
        · rw [unq_bad _ _ _ (.inl q1)]; exact jt _ _
        · by_cases q2 : hexC b < 0
          · rw [unq_bad _ _ _ (.inr q2), decide_eq_true q2]; exact jt _ _
          · rw [unq_good _ _ _ (fun hh => hh.elim q1 q2), unqR_cons, decide_eq_false q2]
            have e : (wrap64 (wrap64 (hexC a * 16) + hexC b)) % 256 = hexC a * 16 + hexC b := by
              clear hb hb1 hb2 hb2' hw1 hw2 hw3
              rw [wrap_id (x := hexC a * 16) (by omega) (by omega), wrap_id (by omega) (by omega)]; omega
            apply ev_succ
            simp only [spec_Unquote.j1, if_neg (show ¬ false = true by simp), hw1, hw2, if_pos g2, if_pos g3, if_pos g4, if_pos g5, hb1, hb2', hw3, l1HexOf_eq a ra.1 ra.2, l1HexOf_eq b rb.1 rb.2, Option.bind_some, if_pos g6, e]
            have hd3 : (bytesOf s).drop (i + 3) = r' := hd2
            have hz := ih (i + 3) r' hd3 (by clear hb hb1 hb2 hb2' hw1 hw2 hw3; omega) g7 (acc ++ [hexC a * 16 + hexC b]) (by clear hb hb1 hb2 hb2' hw1 hw2 hw3; rw [List.length_append]; simp; omega)
            exact hz
    · rw [unq_plain _ _ q, unqR_cons]
      exact ih (i + 1) r hd (by omega) (by omega) _ (by simp; omega)
theorem spec_Unquote_ev (s : ByteArray) (hs : s.size ≤ 140737488351232) : Ev (fun k => spec_Unquote.f k s) (unquote s) := spec_Unquote_l0 hs 0 _ rfl [] (by simp)

theorem isPlain_eq (c : Int) : impl_isPlain.f c = some (plainC c) := by
  unfold impl_isPlain.f plainC; split <;> simp [*] <;> omega
def plainB (l : List Int) : Bool := l.all plainC
theorem impl_Plain_ev (s : ByteArray) (hs : s.size ≤ 140737488351232) : Ev (fun k => impl_Plain.f k s) (plainB (bytesOf s)) := by
  refine str_loop s (fun i k => impl_Plain.l0 k s (i : Int)) plainB ?_ ?_ hs 0
  · intro i hi
    apply ev_succ; simp only [impl_Plain.l0, if_neg (show ¬ (i : Int) < s.size by omega)]; exact Ev.now _
  · intro i c r h hb hi hw hw1 ih
    apply ev_succ
    simp only [impl_Plain.l0, if_pos (show (i : Int) < s.size by omega), if_pos (show (0 : Int) ≤ i by omega), hb, isPlain_eq, Option.bind_some, hw1]
    refine ev_ite (fun h => ?_) (fun h => ?_)
    · simpa [plainB, h] using ih
    · simpa [plainB, h] using Ev.now _
theorem spec_Plain_ev (s : ByteArray) (hs : s.size ≤ 140737488351232) : Ev (fun k => spec_Plain.f k s) (plainB (bytesOf s)) := by
  refine str_loop s (fun i k => spec_Plain.l0 k s (i : Int)) plainB ?_ ?_ hs 0
  · intro i hi
    apply ev_succ; simp only [spec_Plain.l0, if_neg (show ¬ (i : Int) < s.size by omega)]; exact Ev.now _
  · intro i c r h hb hi hw hw1 ih
    apply ev_succ
    simp only [spec_Plain.l0, if_pos (show (i : Int) < s.size by omega), if_pos (show (0 : Int) ≤ i by omega), hb, hw, l1In_eq, Option.bind_some, hw1]
    refine ev_ite (fun h => ?_) (fun h => ?_)
    · have : plainC c = true := h
      simpa [plainB, this] using ih
    · have : plainC c = false := by simpa [plainC] using h
      simpa [plainB, this] using Ev.now _

theorem hexC_D (n : Int) (h0 : 0 ≤ n) (h1 : n < 16) : hexC (hexD n) = n := by
  unfold hexD hexC digitC
  split
  · rw [if_pos (by simp; omega)]; omega
  · rw [if_neg (by simp; omega), if_neg (by omega), if_pos (by omega)]; omega
theorem free_ne {c : Int} (h : freeC c = true) : c ≠ 37 ∧ plainC c = true := by
  unfold freeC smallC largeC digitC at h
  simp only [Bool.or_eq_true, Bool.and_eq_true, decide_eq_true_eq] at h
  exact ⟨by omega, by unfold plainC; simp; omega⟩
theorem quoC_range {c : Int} (h : 0 ≤ c ∧ c < 256) : ∀ x ∈ quoC c, (0 ≤ x ∧ x < 256) ∧ plainC x = true := by
  intro x hx
  unfold quoC at hx
  split at hx
  · rename_i q
    rw [List.mem_singleton.1 hx]
    exact ⟨h, (free_ne q).2⟩
  · have hd : ∀ n : Int, 0 ≤ n → n < 16 → (0 ≤ hexD n ∧ hexD n < 256) ∧ plainC (hexD n) = true := by
      intro n h0 h1
      unfold hexD plainC
      split <;> (simp; omega)
    simp only [List.mem_cons, List.not_mem_nil, or_false] at hx
    rcases hx with rfl | rfl | rfl
    · exact ⟨by omega, by decide⟩
    · exact hd _ (by omega) (by omega)
    · exact hd _ (by omega) (by omega)
theorem quoL_range {l : List Int} (h : ∀ x ∈ l, 0 ≤ x ∧ x < 256) : ∀ x ∈ quoL l, (0 ≤ x ∧ x < 256) ∧ plainC x = true := by
  intro x hx
  obtain ⟨c, hc, hx⟩ := List.mem_flatMap.1 hx
  exact quoC_range (h c hc) x hx
theorem unq_quo : ∀ l : List Int, (∀ x ∈ l, 0 ≤ x ∧ x < 256) → unq (quoL l) = some l
  | [], _ => rfl
  | c :: r, h => by
    have hc := h c (by simp)
    have ih := unq_quo r (fun x hx => h x (by simp [hx]))
    have e : quoL (c :: r) = quoC c ++ quoL r := by simp [quoL]
    rw [e]
    unfold quoC
    split
    · rename_i q
      rw [List.singleton_append, unq_plain c _ (free_ne q).1, ih]
      rfl
    · have h1 := hexC_D (c / 16) (by omega) (by omega)
      have h2 := hexC_D (c % 16) (by omega) (by omega)
      show unq (37 :: hexD (c / 16) :: hexD (c % 16) :: quoL r) = _
      rw [unq_good _ _ _ (by omega), ih, h1, h2]
      simp
      omega
theorem unquote_quote (s : ByteArray) : unquote (strOfNums (quoL (bytesOf s))) = (s, true) := by
  have hr := quoL_range (bytesOf_range s)
  unfold unquote
  rw [bytesOf_strOfNums _ (fun x hx => (hr x hx).1), unq_quo _ (bytesOf_range s)]
  show (strOfNums ([] ++ bytesOf s), true) = _
  rw [List.nil_append, strOfNums_bytesOf]
theorem plain_quote (s : ByteArray) : plainB (bytesOf (strOfNums (quoL (bytesOf s)))) = true := by
  have hr := quoL_range (bytesOf_range s)
  rw [bytesOf_strOfNums _ (fun x hx => (hr x hx).1)]
  exact List.all_eq_true.2 fun x hx => (hr x hx).2
theorem quoL_len : ∀ l : List Int, (quoL l).length ≤ 3 * l.length
  | [] => by simp [quoL]
  | c :: r => by
    have h1 := quoC_len c
    have h2 := quoL_len r
    have e : quoL (c :: r) = quoC c ++ quoL r := by simp [quoL]
    rw [e, List.length_append, List.length_cons]
    omega
theorem sON_len (l : List Int) : (strOfNums l).size = l.length := by
  unfold strOfNums
  show (List.map _ l).toArray.size = _
  simp

theorem DrawQuote_dr (l : List Int) (hl : l.length ≤ 1048576) : ∃ s, Ev (fun k => spec_DrawQuote.f k l) s ∧ s.size ≤ 100 := by
  obtain ⟨h, hn⟩ := l1New_ev l hl
  obtain ⟨x, i1, e1, f1, p1, a1, b1⟩ := l1Text_dr l 0 h hl (by omega) (by omega)
  obtain ⟨y, i2, e2, f2, p2, a2, b2⟩ := l1Str_dr [(⟨#[]⟩ : ByteArray), (⟨#[47, 37]⟩ : ByteArray), (⟨#[255, 0]⟩ : ByteArray), (⟨#[90, 122, 126, 95, 46]⟩ : ByteArray)] (by decide) l i1 e1 hl a1 b1
  have f2' : spec_l1Str.f l i1 e1 _ = some (y, i2, e2) := f2
  have hy : y.size ≤ 9 := (by decide : ∀ x ∈ _, x.size ≤ 9) y p2
  refine ⟨x ++ y, ?_, by rw [ByteArray.size_append]; omega⟩
  unfold spec_DrawQuote.f
  refine Ev.bind hn ?_
  simp only [f1, Option.bind_some, f2', if_pos (show x.size + y.size ≤ 9223372036854775807 by omega)]
  exact Ev.now _
theorem DrawUnquote_dr (l : List Int) (hl : l.length ≤ 1048576) : ∃ s, Ev (fun k => spec_DrawUnquote.f k l) s ∧ s.size ≤ 1000 := by
  obtain ⟨h, hn⟩ := l1New_ev l hl
  obtain ⟨q, hq, hqs⟩ := DrawQuote_dr l hl
  obtain ⟨y, i2, e2, f2, p2, a2, b2⟩ := l1Str_dr [(⟨#[]⟩ : ByteArray), (⟨#[]⟩ : ByteArray), (⟨#[37]⟩ : ByteArray), (⟨#[37, 52]⟩ : ByteArray), (⟨#[37, 52, 103]⟩ : ByteArray), (⟨#[37, 50, 102]⟩ : ByteArray), (⟨#[37, 55, 69]⟩ : ByteArray), (⟨#[43]⟩ : ByteArray)] (by decide) l 0 h hl (by omega) (by omega)
  have f2' : spec_l1Str.f l 0 h _ = some (y, i2, e2) := f2
  have hy : y.size ≤ 9 := (by decide : ∀ x ∈ _, x.size ≤ 9) y p2
  have hz : (strOfNums (quoL (bytesOf q))).size ≤ 300 := by
    rw [sON_len]
    have := quoL_len (bytesOf q)
    rw [bytesOf_length] at this
    omega
  refine ⟨strOfNums (quoL (bytesOf q)) ++ y, ?_, by rw [ByteArray.size_append]; omega⟩
  unfold spec_DrawUnquote.f
  refine Ev.bind hn (Ev.bind hq (Ev.bind (spec_Quote_ev q (by omega)) ?_))
  simp only [f2', Option.bind_some, if_pos (show (strOfNums (quoL (bytesOf q))).size + y.size ≤ 9223372036854775807 by omega)]
  exact Ev.now _
theorem DrawNameOk_dr (l : List Int) (hl : l.length ≤ 1048576) : ∃ s, Ev (fun k => spec_DrawNameOk.f k l) s ∧ s.size ≤ 100 := by
  obtain ⟨h, hn⟩ := l1New_ev l hl
  obtain ⟨p, i1, e1, f1, p1, a1, b1⟩ := l2Any_dr l 0 h hl (by omega) (by omega)
  have hp := p1.1
  refine ⟨rdOf ByteArray.empty (p ++ [(⟨#[122]⟩ : ByteArray)]) 0, ?_, ?_⟩
  · unfold spec_DrawNameOk.f
    refine Ev.bind hn (Ev.bind f1 ?_)
    simp only [Option.bind_some, if_pos (show p.length < 8796093022208 by omega), if_pos (show (0 : Int) < ((p ++ [(⟨#[122]⟩ : ByteArray)]).length : Int) by rw [List.length_append]; simp)]
    exact Ev.now _
  · have : ∀ x ∈ p ++ [(⟨#[122]⟩ : ByteArray)], x.size ≤ 9 := fun x hx => by
      rcases List.mem_append.1 hx with hx | hx
      · exact p1.2 x hx
      · simp at hx; rw [hx]; decide
    have hlen : 0 < (p ++ [(⟨#[122]⟩ : ByteArray)]).length := by simp
    have h2 := this _ (List.getElem_mem hlen)
    rw [rdOf, List.getD_eq_getElem?_getD, show (0 : Int).toNat = 0 from rfl, List.getElem?_eq_getElem hlen, Option.getD_some]
    omega
theorem DrawUnder_dr (l : List Int) (hl : l.length ≤ 1048576) : ∃ a b, Ev (fun k => spec_DrawUnder.f k l) (a, b) ∧ SmallP 5 a ∧ SmallP 5 b := by
  obtain ⟨h, hn⟩ := l1New_ev l hl
  obtain ⟨p, i1, e1, f1, p1, a1, b1⟩ := l2Any_dr l 0 h hl (by omega) (by omega)
  obtain ⟨o, i2, e2, f2, p2, a2, b2⟩ := l1Once_dr 2 l i1 e1 hl a1 b1
  have f2' : spec_l1Once.f l i1 e1 2 = some (o, i2, e2) := f2
  have hp := p1.1
  cases o with
  | true =>
    obtain ⟨x, i3, e3, f3, p3, a3, b3⟩ := l1Below_dr ((p.length : Int) + 1) l i2 e2 hl a2 b2
    have f3' : spec_l1Below.f l i2 e2 ((p.length : Int) + 1) = some (x, i3, e3) := f3
    have hx := p3.2 (by omega)
    have hx0 := p3.1
    refine ⟨p, p.take x.toNat, ?_, p1, ⟨by rw [List.length_take]; omega, fun y hy => p1.2 y (List.mem_of_mem_take hy)⟩⟩
    unfold spec_DrawUnder.f
    refine Ev.bind hn (Ev.bind f1 ?_)
    simp only [f2', Option.bind_some, if_true, wrap_id (x := (p.length : Int) + 1) (by omega) (by omega), f3', if_pos hx0, if_pos (show x ≤ (p.length : Int) by omega)]
    exact Ev.now _
  | false =>
    obtain ⟨q, i3, e3, f3, p3, a3, b3⟩ := l2Any_dr l i2 e2 hl a2 b2
    refine ⟨p, q, ?_, p1, p3⟩
    unfold spec_DrawUnder.f
    refine Ev.bind hn (Ev.bind f1 ?_)
    simp only [f2', Option.bind_some, Bool.false_eq_true, if_false]
    exact Ev.bind f3 (Ev.now _)
theorem DrawSamePath_dr (l : List Int) (hl : l.length ≤ 1048576) : ∃ a b, Ev (fun k => spec_DrawSamePath.f k l) (a, b) ∧ SmallP 5 a ∧ SmallP 5 b := by
  obtain ⟨h, hn⟩ := l1New_ev l hl
  obtain ⟨p, i1, e1, f1, p1, a1, b1⟩ := l2Any_dr l 0 h hl (by omega) (by omega)
  obtain ⟨o, i2, e2, f2, p2, a2, b2⟩ := l1Once_dr 2 l i1 e1 hl a1 b1
  have f2' : spec_l1Once.f l i1 e1 2 = some (o, i2, e2) := f2
  have hp := p1.1
  cases o with
  | true =>
    refine ⟨p, p, ?_, p1, p1⟩
    unfold spec_DrawSamePath.f
    refine Ev.bind hn (Ev.bind f1 ?_)
    simp only [f2', Option.bind_some, if_true, List.nil_append, List.length_nil, if_pos (show 0 + p.length < 8796093022208 by omega)]
    exact Ev.now _
  | false =>
    obtain ⟨q, i3, e3, f3, p3, a3, b3⟩ := l2Any_dr l i2 e2 hl a2 b2
    refine ⟨p, q, ?_, p1, p3⟩
    unfold spec_DrawSamePath.f
    refine Ev.bind hn (Ev.bind f1 ?_)
    simp only [f2', Option.bind_some, Bool.false_eq_true, if_false]
    exact Ev.bind f3 (Ev.now _)

theorem sameTexts_ev (a b : List ByteArray) (ha : a.length ≤ 9223372036854775806) : Ev (fun k => laws_sameTexts.f k a b) (eqb a b) := by
  unfold laws_sameTexts.f
  refine ev_ite (fun q => ?_) (fun q => ?_)
  · have q' : a.length = b.length := by omega
    refine eq_loop a b (· = ·) q' ha (fun i k => laws_sameTexts.l0 k a b (i : Int)) _ ((eqb_iff a b).trans (list_eq_iff a b q')) ?_ ?_
    · intro i hi
      apply ev_succ; simp only [laws_sameTexts.l0, if_neg (show ¬ (i : Int) < a.length by omega)]; exact Ev.now _
    · intro i x y v hi hx hy hw1 ih
      have hxx : rdOf ByteArray.empty a (i : Int) = x := hx _
      have hyy : rdOf ByteArray.empty b (i : Int) = y := hy _
      refine ⟨fun hR => ?_, fun hR => ?_⟩
      · apply ev_succ
        simp only [laws_sameTexts.l0, if_pos (show (i : Int) < a.length by omega), if_pos (show (0 : Int) ≤ i by omega), if_pos (show (i : Int) < b.length by omega), hxx, hyy, hw1, toList_iff, if_pos hR]; exact ih
      · apply ev_succ
        simp only [laws_sameTexts.l0, if_pos (show (i : Int) < a.length by omega), if_pos (show (0 : Int) ≤ i by omega), if_pos (show (i : Int) < b.length by omega), hxx, hyy, hw1, toList_iff, if_neg hR]; exact Ev.now _
  · rw [eqb_ne (fun h => q (by rw [h]))]; exact Ev.now _

theorem lit_iff (s : ByteArray) (l : List UInt8) : s.toList = l ↔ bytesOf s = l.map fun b => (b.toNat : Int) := by
  rw [Lib.toList_data]
  unfold bytesOf
  constructor
  · intro h; rw [h]
  · intro h; exact List.map_inj_right (fun x y hxy => UInt8.toNat_inj.mp (by omega)) |>.mp h
theorem indexByte_mem : ∀ (l : List UInt8) (c : UInt8), 0 ≤ Lib.indexByte l c ↔ c ∈ l
  | [], c => by simp [Lib.indexByte]
  | b :: l, c => by
    have ih := indexByte_mem l c
    have hg := Lib.indexByte_ge l c
    simp only [Lib.indexByte]
    by_cases h : b = c
    · subst h; simp
    · have h' : (b == c) = false := by simpa using h
      have h2 : ¬ c = b := fun e => h e.symm
      rw [h']
      simp only [Bool.false_eq_true, if_false, List.mem_cons, h2, false_or, ← ih]
      by_cases q : Lib.indexByte l c = -1
      · simp [q]
      · have : (Lib.indexByte l c == -1) = false := by simpa using q
        rw [this]; simp only [Bool.false_eq_true, if_false]; omega
theorem mem_bytes (s : ByteArray) (c : UInt8) : c ∈ s.data.toList ↔ (c.toNat : Int) ∈ bytesOf s := by
  unfold bytesOf
  rw [List.mem_map]
  constructor
  · intro h; exact ⟨c, h, rfl⟩
  · rintro ⟨d, hd, he⟩
    have : d = c := UInt8.toNat_inj.mp (by omega)
    rw [← this]; exact hd

theorem in_eq (c a b : Int) : impl_in.f c a b = some (decide (a ≤ c) && decide (c ≤ b)) := by
  unfold impl_in.f; split <;> simp [*] <;> omega

def lenB (s : ByteArray) (a b : Int) : Bool := decide (a ≤ (s.size : Int)) && decide ((s.size : Int) ≤ b)

theorem dots1 (s : ByteArray) : s.toList = ([46] : List UInt8) ↔ bytesOf s = [46] := lit_iff s [46]
theorem dots2 (s : ByteArray) : s.toList = ([46, 46] : List UInt8) ↔ bytesOf s = [46, 46] := lit_iff s [46, 46]
/-- a name -/
noncomputable def nameOk (s : ByteArray) : Bool := lenB s 1 8 && (plainB (bytesOf s) && (!decb ((47 : Int) ∈ bytesOf s) && (!decb (bytesOf s = [46]) && !decb (bytesOf s = [46, 46]))))
theorem impl_NameOk_ev (s : ByteArray) (hs : s.size ≤ 140737488351232) : Ev (fun k => impl_NameOk.f k s) (nameOk s) := by
  unfold impl_NameOk.f nameOk
  simp only [in_eq, Option.bind_some]
  refine ev_iteB (fun q => ?_) (fun q => ?_)
  · rw [show lenB s 1 8 = true from q, Bool.true_and]
    refine Ev.bind (impl_Plain_ev s hs) (ev_iteB (fun q1 => ?_) (fun q1 => ?_))
    · rw [q1, Bool.true_and]
      have e0 : strings_Contains.f s (⟨#[47]⟩ : ByteArray) = some (decide (0 ≤ Lib.indexByte s.data.toList 47)) := rfl
      have e1 : (0 ≤ Lib.indexByte s.data.toList 47) ↔ (47 : Int) ∈ bytesOf s := (indexByte_mem _ _).trans (mem_bytes s 47)
      simp only [e0, Option.bind_some]
      refine ev_iteB (fun q2 => ?_) (fun q2 => ?_)
      · rw [decb_true (e1.mp (of_decide_eq_true q2))]; exact Ev.now _
      · rw [decb_false (fun h => of_decide_eq_false q2 (e1.mpr h)), Bool.not_false, Bool.true_and]
        refine ev_ite (fun q3 => ?_) (fun q3 => ?_)
        · rw [decb_true ((dots1 s).mp q3)]; exact Ev.now _
        · rw [decb_false (fun h => q3 ((dots1 s).mpr h)), Bool.not_false, Bool.true_and]
          have : (s.toList != ([46, 46] : List UInt8)) = !decb (bytesOf s = [46, 46]) := by
            by_cases h : s.toList = [46, 46]
            · rw [decb_true ((dots2 s).mp h), h]; rfl
            · rw [decb_false (fun h2 => h ((dots2 s).mpr h2))]; simpa using h
          rw [this]; exact Ev.now _
    · rw [q1, Bool.false_and]; exact Ev.now _
  · rw [show lenB s 1 8 = false from q, Bool.false_and]; exact Ev.now _
theorem spec_NameOk_ev (s : ByteArray) (hs : s.size ≤ 140737488351232) : Ev (fun k => spec_NameOk.f k s) (nameOk s) := by
  have H := str_loop_st s (fun i (_ : Unit) k => spec_NameOk.l0 k s (i : Int)) (fun i _ r => !decb ((47 : Int) ∈ r) && (lenB s 1 8 && (plainB (bytesOf s) && (!decb (bytesOf s = [46]) && !decb (bytesOf s = [46, 46]))))) (fun _ _ _ => True) ?_ ?_ hs 0 () trivial
  · have e : nameOk s = (!decb ((47 : Int) ∈ bytesOf s) && (lenB s 1 8 && (plainB (bytesOf s) && (!decb (bytesOf s = [46]) && !decb (bytesOf s = [46, 46]))))) := by
      unfold nameOk
      cases lenB s 1 8 <;> cases plainB (bytesOf s) <;> cases decb ((47 : Int) ∈ bytesOf s) <;> simp
    rw [e]; exact H
  · intro i _ _ hi
    rw [decb_false (by simp), Bool.not_false, Bool.true_and]
    apply ev_succ
    simp only [spec_NameOk.l0, if_neg (show ¬ (i : Int) < s.size by omega), l1In_eq, Option.bind_some]
    refine ev_iteB (fun q => ?_) (fun q => ?_)
    · rw [show lenB s 1 8 = true from q, Bool.true_and]
      refine Ev.bind (spec_Plain_ev s hs) (ev_iteB (fun q1 => ?_) (fun q1 => ?_))
      · rw [q1, Bool.true_and]
        refine ev_ite (fun q3 => ?_) (fun q3 => ?_)
        · rw [decb_true ((dots1 s).mp q3)]; exact Ev.now _
        · rw [decb_false (fun h => q3 ((dots1 s).mpr h)), Bool.not_false, Bool.true_and]
          have : (s.toList != ([46, 46] : List UInt8)) = !decb (bytesOf s = [46, 46]) := by
            by_cases h : s.toList = [46, 46]
            · rw [decb_true ((dots2 s).mp h), h]; rfl
            · rw [decb_false (fun h2 => h ((dots2 s).mpr h2))]; simpa using h
          rw [this]; exact Ev.now _
      · rw [q1, Bool.false_and]; exact Ev.now _
    · rw [show lenB s 1 8 = false from q, Bool.false_and]; exact Ev.now _
  · intro i _ c r _ h hb hi hw hw1 ih
    apply ev_succ
    simp only [spec_NameOk.l0, if_pos (show (i : Int) < s.size by omega), if_pos (show (0 : Int) ≤ i by omega), hb, hw1]
    refine ev_ite (fun q => ?_) (fun q => ?_)
    · subst q; rw [decb_true (by simp), Bool.not_true, Bool.false_and]; exact Ev.now _
    · have e : decb ((47 : Int) ∈ c :: r) = decb ((47 : Int) ∈ r) := by
        rw [Bool.eq_iff_iff, decb_iff, decb_iff, List.mem_cons]
        exact ⟨fun h => h.elim (fun e => absurd e.symm q) id, .inr⟩
      rw [e]; exact ih () trivial

theorem impl_SamePath_ev (a b : List ByteArray) (ha : a.length ≤ 9223372036854775806) : Ev (fun k => impl_SamePath.f k a b) (eqb a b) := by
  unfold impl_SamePath.f
  refine ev_ite (fun q => ?_) (fun q => ?_)
  · have q' : a.length = b.length := by omega
    refine eq_loop a b (· = ·) q' ha (fun i k => impl_SamePath.l0 k a b (a.length : Int) (i : Int)) _ ((eqb_iff a b).trans (list_eq_iff a b q')) ?_ ?_
    · intro i hi
      apply ev_succ; simp only [impl_SamePath.l0, if_neg (show ¬ (i : Int) < a.length by omega)]; exact Ev.now _
    · intro i x y v hi hx hy hw1 ih
      have hxx : rdOf ByteArray.empty a (i : Int) = x := hx _
      have hyy : rdOf ByteArray.empty b (i : Int) = y := hy _
      refine ⟨fun hR => ?_, fun hR => ?_⟩
      · apply ev_succ
        simp only [impl_SamePath.l0, if_pos (show (i : Int) < a.length by omega), if_pos (show (0 : Int) ≤ i by omega), if_pos (show (i : Int) < b.length by omega), hxx, hyy, hw1, toList_iff, if_pos hR]; exact ih
      · apply ev_succ
        simp only [impl_SamePath.l0, if_pos (show (i : Int) < a.length by omega), if_pos (show (0 : Int) ≤ i by omega), if_pos (show (i : Int) < b.length by omega), hxx, hyy, hw1, toList_iff, if_neg hR]; exact Ev.now _
  · rw [eqb_ne (fun h => q (by rw [h]))]; exact Ev.now _
theorem spec_SamePath_ev (a b : List ByteArray) (ha : a.length ≤ 9223372036854775806) : Ev (fun k => spec_SamePath.f k a b) (eqb a b) := by
  unfold spec_SamePath.f
  refine ev_ite (fun q => ?_) (fun q => ?_)
  · have q' : a.length = b.length := by omega
    refine eq_loop a b (· = ·) q' ha (fun i k => spec_SamePath.l0 k a b (i : Int)) _ ((eqb_iff a b).trans (list_eq_iff a b q')) ?_ ?_
    · intro i hi
      apply ev_succ; simp only [spec_SamePath.l0, if_neg (show ¬ (i : Int) < a.length by omega)]; exact Ev.now _
    · intro i x y v hi hx hy hw1 ih
      have hxx : rdOf ByteArray.empty a (i : Int) = x := hx _
      have hyy : rdOf ByteArray.empty b (i : Int) = y := hy _
      refine ⟨fun hR => ?_, fun hR => ?_⟩
      · apply ev_succ
        simp only [spec_SamePath.l0, if_pos (show (i : Int) < a.length by omega), if_pos (show (0 : Int) ≤ i by omega), if_pos (show (i : Int) < b.length by omega), hxx, hyy, hw1, toList_iff, if_pos hR]; exact ih
      · apply ev_succ
        simp only [spec_SamePath.l0, if_pos (show (i : Int) < a.length by omega), if_pos (show (0 : Int) ≤ i by omega), if_pos (show (i : Int) < b.length by omega), hxx, hyy, hw1, toList_iff, if_neg hR]; exact Ev.now _
  · rw [eqb_ne (fun h => q (by rw [h]))]; exact Ev.now _

theorem impl_Under_ev (a b : List ByteArray) (ha : a.length ≤ 9223372036854775806) : Ev (fun k => impl_Under.f k a b) (decide (b.length < a.length) && eqb (a.take b.length) b) := by
  unfold impl_Under.f
  refine ev_ite (fun q => ?_) (fun q => ?_)
  · simp only [if_pos (show (0 : Int) ≤ (b.length : Int) by omega), if_pos (show (b.length : Int) ≤ (a.length : Int) by omega), Int.toNat_natCast]
    rw [decide_eq_true (show b.length < a.length by omega), Bool.true_and]
    exact Ev.bind (impl_SamePath_ev _ _ (by simp; omega)) (Ev.now _)
  · rw [decide_eq_false (by omega), Bool.false_and]; exact Ev.now _
theorem spec_Under_ev (a b : List ByteArray) (ha : a.length ≤ 9223372036854775806) : Ev (fun k => spec_Under.f k a b) (decide (b.length < a.length) && eqb (a.take b.length) b) := by
  unfold spec_Under.f
  refine ev_ite (fun q => ?_) (fun q => ?_)
  · simp only [if_pos (show (0 : Int) ≤ (b.length : Int) by omega), if_pos (show (b.length : Int) ≤ (a.length : Int) by omega), Int.toNat_natCast]
    rw [decide_eq_true (show b.length < a.length by omega), Bool.true_and]
    exact Ev.bind (spec_SamePath_ev _ _ (by simp; omega)) (Ev.now _)
  · rw [decide_eq_false (by omega), Bool.false_and]; exact Ev.now _

theorem FnQuotes : laws_FnQuotes.Pure := by
  intro l _ _ _
  apply Ev.rounds
  unfold laws_FnQuotes.f laws_big.f
  simp only [Option.bind_some]
  refine ev_iteB (fun _ => Ev.now _) (fun q => ?_)
  have hl : l.length ≤ 1048576 := by
    have := of_decide_eq_false q
    omega
  obtain ⟨s, es, hs⟩ := DrawQuote_dr l hl
  obtain ⟨t, et, ht⟩ := DrawUnquote_dr l hl
  obtain ⟨n, en, hn⟩ := DrawNameOk_dr l hl
  obtain ⟨a, b, eu, ha, hb'⟩ := DrawUnder_dr l hl
  obtain ⟨c, d, ec, hc, hd⟩ := DrawSamePath_dr l hl
  have ha1 := ha.1
  have hc1 := hc.1
  have hz : (strOfNums (quoL (bytesOf s))).size ≤ 300 := by
    rw [sON_len]
    have := quoL_len (bytesOf s)
    rw [bytesOf_length] at this
    omega
  have hu1 := impl_Unquote_ev (strOfNums (quoL (bytesOf s))) (by omega)
  rw [unquote_quote] at hu1
  refine Ev.bind es (Ev.bind (impl_Quote_ev s (by omega)) (Ev.bind hu1 (Ev.bind et (Ev.bind (impl_Unquote_ev t (by omega)) (Ev.bind (spec_Unquote_ev t (by omega)) (Ev.bind en (Ev.bind eu (Ev.bind ec ?_))))))))
  simp only [if_true]
  have hp := impl_Plain_ev (strOfNums (quoL (bytesOf s))) (by omega)
  rw [plain_quote] at hp
  refine Ev.bind hp ?_
  simp only [beq_self_eq_true, if_true]
  refine Ev.bind (impl_NameOk_ev n (by omega)) (Ev.bind (spec_NameOk_ev n (by omega)) ?_)
  simp only [beq_self_eq_true, if_true]
  refine Ev.bind (impl_Under_ev a b (by omega)) (Ev.bind (spec_Under_ev a b (by omega)) ?_)
  simp only [beq_self_eq_true, if_true]
  refine Ev.bind (impl_SamePath_ev c d (by omega)) (Ev.bind (sameTexts_ev c d (by omega)) ?_)
  simp only [beq_self_eq_true, if_true]
  refine Ev.bind (impl_Under_ev a a (by omega)) ?_
  have e : (decide (a.length < a.length) && eqb (a.take a.length) a) = false := by simp
  rw [e]
  exact Ev.now _

end Go.Proofs.Ytgfpiijpgpkoiaa.Pure
