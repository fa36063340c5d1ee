/- Of drawn requests, bent or not, each is right, and the same, as the reference has it, for all codes; no condition. -/
import Derived.Test.YtgfpiijpgpkoiabDoorGFnReqsBentx7
import Derived.Test.YtgfpiijpgpkoiabDoorBase
import Derived.Lib.SlTrimSet
import Derived.Lib.Bytealg
namespace Go.Proofs.YtgfpiijpgpkoiabDoor.Pure
open Go.RowKit Go.Proofs.YtgfpiijpgpkoiabDoor.GFnReqsBent Go.Proofs.YtgfpiijpgpkoiabDoor.Base Go.Proofs.YtgfpiijpgpkoiabDoorW.PrintWords Go.Proofs.YtgfpiijpgpkoiabDoorW.PrintLast
set_option linter.unusedVariables false
set_option linter.unusedSimpArgs false


/-! what is drawn: something, with what is known of it -/
theorem bits255 (x : Int) : 0 ≤ Go.bits .and .i64 x 255 ∧ Go.bits .and .i64 x 255 ≤ 255 := by
  have h2 : (BitVec.ofInt 64 x).toNat &&& 255 ≤ 255 := Nat.and_le_right
  have h : Go.bits .and .i64 x 255 = IntKind.i64.wrap (((BitVec.ofInt 64 x &&& BitVec.ofInt 64 255).toNat : Nat) : Int) := rfl
  have e : (BitVec.ofInt 64 255).toNat = 255 := by decide
  rw [h, BitVec.toNat_and, e, IntKind.wrap_i64]
  omega
def Dr {α : Type} (f : List Int → Int → Int → Option (α × Int × Int)) (P : α → Prop) : Prop :=
  ∀ (b : List Int) (i h : Int), b.length ≤ 1048576 → 0 ≤ i → i ≤ b.length → ∃ x i' h', f b i h = some (x, i', h') ∧ P x ∧ 0 ≤ i' ∧ i' ≤ b.length
def DrE {α : Type} (f : Nat → List Int → Int → Int → Option (α × Int × Int)) (P : α → Prop) : Prop :=
  ∀ (b : List Int) (i h : Int), b.length ≤ 1048576 → 0 ≤ i → i ≤ b.length → ∃ x i' h', Ev (fun k => f k b i h) (x, i', h') ∧ P x ∧ 0 ≤ i' ∧ i' ≤ b.length
theorem l1New_ev (l : List Int) (hl : l.length ≤ 1048576) : ∃ h, Ev (fun k => spec_l1New.f k l) (l, (0 : Int), h) := by
  have key : ∀ n i (x : Int), l.length - i = n → ∃ h, Ev (fun k => spec_l1New.l0 k l x (i : Int)) (l, (0 : Int), h) := by
    intro n
    induction n with
    | zero =>
      intro i x hn
      refine ⟨x, ?_⟩
      apply ev_succ; simp only [spec_l1New.l0, if_neg (show ¬ (i : Int) < (l.length : Int) by omega)]; exact Ev.now _
    | succ n ih =>
      intro i x hn
      by_cases h4 : (i : Int) < 4000
      · obtain ⟨h, hh⟩ := ih (i + 1) (Go.bits .and .i64 (wrap64 ((wrap64 ((wrap64 (x * 137)) + (wrap64 (rd l i)))) + 11)) 1073741823) (by omega)
        refine ⟨h, ?_⟩
        apply ev_succ
        simp only [spec_l1New.l0, if_pos (show (i : Int) < (l.length : Int) by omega), if_pos h4, if_pos (show (0 : Int) ≤ (i : Int) by omega), wrap_id (x := (i : Int) + 1) (by omega) (by omega)]
        exact hh
      · refine ⟨x, ?_⟩
        apply ev_succ; simp only [spec_l1New.l0, if_pos (show (i : Int) < (l.length : Int) by omega), if_neg h4]; exact Ev.now _
  exact key _ 0 _ rfl
theorem l1Byte_dr : Dr spec_l1Byte.f (fun x => 0 ≤ x ∧ x ≤ 255) := by
  intro b i h hb h0 h1
  unfold spec_l1Byte.f
  by_cases q : i < (b.length : Int)
  · rw [if_pos q, if_pos h0]
    exact ⟨_, _, _, rfl, bits255 _, by rw [wrap_id (by omega) (by omega)]; omega, by rw [wrap_id (by omega) (by omega)]; omega⟩
  · rw [if_neg q]
    exact ⟨_, _, _, rfl, bits255 _, h0, h1⟩
theorem tmod_range (x n : Int) (hx : 0 ≤ x) (hn : 0 < n) : 0 ≤ Int.tmod x n ∧ Int.tmod x n < n := by
  rw [Int.tmod_eq_emod_of_nonneg hx]
  exact ⟨Int.emod_nonneg _ (by omega), Int.emod_lt_of_pos _ hn⟩
theorem l1Below_dr (n : Int) : Dr (fun b i h => spec_l1Below.f b i h n) (fun x => 0 ≤ x ∧ (0 < n → x < n)) := by
  intro b i h hb h0 h1
  show ∃ x i' h', spec_l1Below.f b i h n = some (x, i', h') ∧ _
  unfold spec_l1Below.f
  by_cases q : n ≤ 0
  · rw [if_pos q]
    exact ⟨_, _, _, rfl, ⟨by omega, by omega⟩, h0, h1⟩
  · rw [if_neg q]
    obtain ⟨x, i1, e1, f1, p1, a1, b1⟩ := l1Byte_dr b i h hb h0 h1
    by_cases q1 : n ≤ 256
    · rw [if_pos q1, f1]
      simp only [Option.bind_some, if_neg (show ¬ n = 0 by omega)]
      have := tmod_range x n p1.1 (by omega)
      exact ⟨_, _, _, rfl, ⟨this.1, fun _ => this.2⟩, a1, b1⟩
    · rw [if_neg q1, f1]
      obtain ⟨y, i2, e2, f2, p2, a2, b2⟩ := l1Byte_dr b i1 e1 hb a1 b1
      obtain ⟨z, i3, e3, f3, p3, a3, b3⟩ := l1Byte_dr b i2 e2 hb a2 b2
      simp only [Option.bind_some, f2, f3, if_neg (show ¬ n = 0 by omega)]
      rw [wrap_id (x := x * 65536) (by omega) (by omega), wrap_id (x := y * 256) (by omega) (by omega), wrap_id (x := x * 65536 + y * 256) (by omega) (by omega), wrap_id (x := x * 65536 + y * 256 + z) (by omega) (by omega)]
      have := tmod_range (x * 65536 + y * 256 + z) n (by omega) (by omega)
      exact ⟨_, _, _, rfl, ⟨this.1, fun _ => this.2⟩, a3, b3⟩

theorem l1Str_dr (l : List ByteArray) (hl : 0 < l.length) : Dr (fun b i h => spec_l1Str.f b i h l) (fun x => x ∈ l) := by
  intro b i h hb h0 h1
  obtain ⟨x, i1, e1, f1, p1, a1, b1⟩ := l1Below_dr (l.length : Int) b i h hb h0 h1
  have f1' : spec_l1Below.f b i h (l.length : Int) = some (x, i1, e1) := f1
  have hx := p1.2 (by omega)
  show ∃ x i' h', spec_l1Str.f b i h l = some (x, i', h') ∧ _
  unfold spec_l1Str.f
  rw [f1']
  simp only [Option.bind_some, if_pos p1.1, if_pos hx]
  refine ⟨_, _, _, rfl, ?_, a1, b1⟩
  have hn : x.toNat < l.length := by omega
  rw [rdOf, List.getD_eq_getElem?_getD, List.getElem?_eq_getElem hn]
  exact List.getElem_mem hn
theorem Dr.of_str {P : ByteArray → Prop} {l : List ByteArray} {f : List Int → Int → Int → Option (ByteArray × Int × Int)} (hf : ∀ b i h, f b i h = (spec_l1Str.f b i h l).bind fun t => some (t.1, t.2.1, t.2.2)) (hl : 0 < l.length) (hP : ∀ x ∈ l, P x) : Dr f P := by
  intro b i h hb h0 h1
  obtain ⟨x, i1, e1, f1, p1, a1, b1⟩ := l1Str_dr l hl b i h hb h0 h1
  have f1' : spec_l1Str.f b i h l = some (x, i1, e1) := f1
  rw [hf, f1']
  exact ⟨_, _, _, rfl, hP x p1, a1, b1⟩

theorem l1Int_dr (l : List Int) (hl : 0 < l.length) : Dr (fun b i h => spec_l1Int.f b i h l) (fun x => x ∈ l) := by
  intro b i h hb h0 h1
  obtain ⟨x, i1, e1, f1, p1, a1, b1⟩ := l1Below_dr (l.length : Int) b i h hb h0 h1
  have f1' : spec_l1Below.f b i h (l.length : Int) = some (x, i1, e1) := f1
  have hx := p1.2 (by omega)
  show ∃ x i' h', spec_l1Int.f b i h l = some (x, i', h') ∧ _
  unfold spec_l1Int.f
  rw [f1']
  simp only [Option.bind_some, if_pos p1.1, if_pos hx]
  refine ⟨_, _, _, rfl, ?_, a1, b1⟩
  have hn : x.toNat < l.length := by omega
  rw [rd, List.getD_eq_getElem?_getD, List.getElem?_eq_getElem hn]
  exact List.getElem_mem hn
theorem l1Once_dr (n : Int) : Dr (fun b i h => spec_l1Once.f b i h n) (fun _ => True) := by
  intro b i h hb h0 h1
  obtain ⟨x, i1, e1, f1, p1, a1, b1⟩ := l1Below_dr n b i h hb h0 h1
  have f1' : spec_l1Below.f b i h n = some (x, i1, e1) := f1
  show ∃ x i' h', spec_l1Once.f b i h n = some (x, i', h') ∧ _
  unfold spec_l1Once.f
  rw [f1']
  exact ⟨_, _, _, rfl, trivial, a1, b1⟩

theorem head_eq (x y : S102) : x = y ↔ x.f0 = y.f0 ∧ x.f1 = y.f1 := by cases x; cases y; simp
def headOf (name : ByteArray) : List S102 → ByteArray × Bool
  | [] => (⟨#[]⟩, false)
  | h :: r => if h.f0 = name then (h.f1, true) else headOf name r
theorem impl_HeadOf_ev (l : List S102) (name : ByteArray) (hl : l.length ≤ 9223372036854775806) : Ev (fun k => impl_HeadOf.f k l name) (headOf name l) := by
  refine list_loop_st l hl (fun i (_ : Unit) k => impl_HeadOf.l0 k name l (l.length : Int) (i : Int)) (fun _ _ r => headOf name r) (fun _ _ _ => True) ?_ ?_ 0 () trivial
  · intro i _ _ hi
    apply ev_succ; simp only [impl_HeadOf.l0, if_neg (show ¬ (i : Int) < l.length by omega)]; exact Ev.now _
  · intro i _ c r _ h hb hi hw1 ih
    have hbb : rd_T102 l (i : Int) = c := hb _
    apply ev_succ
    simp only [impl_HeadOf.l0, if_pos (show (i : Int) < l.length by omega), if_pos (show (0 : Int) ≤ i by omega), hbb, hw1, toList_iff, headOf]
    refine ev_ite (fun q => ?_) (fun q => ?_)
    · rw [if_pos q]; exact Ev.now _
    · rw [if_neg q]; exact ih () trivial
theorem spec_HeadOf_ev (l : List S102) (name : ByteArray) (hl : l.length ≤ 9223372036854775806) : Ev (fun k => spec_HeadOf.f k l name) (headOf name l) := by
  refine list_loop_st l hl (fun i (_ : Unit) k => spec_HeadOf.l0 k l name (i : Int)) (fun _ _ r => headOf name r) (fun _ _ _ => True) ?_ ?_ 0 () trivial
  · intro i _ _ hi
    apply ev_succ; simp only [spec_HeadOf.l0, if_neg (show ¬ (i : Int) < l.length by omega)]; exact Ev.now _
  · intro i _ c r _ h hb hi hw1 ih
    have hbb : rd_T102 l (i : Int) = c := hb _
    apply ev_succ
    simp only [spec_HeadOf.l0, if_pos (show (i : Int) < l.length by omega), if_pos (show (0 : Int) ≤ i by omega), hbb, hw1, toList_iff, headOf]
    refine ev_ite (fun q => ?_) (fun q => ?_)
    · rw [if_pos q]; exact Ev.now _
    · rw [if_neg q]; exact ih () trivial

def lenB (s : ByteArray) (a b : Int) : Bool := decide (a ≤ (s.size : Int)) && decide ((s.size : Int) ≤ b)

/-- byte classes -/
def plainC (c : Int) : Bool := decide (32 ≤ c) && decide (c ≤ 126)
def smallC (c : Int) : Bool := decide (97 ≤ c) && decide (c ≤ 122)
def digitC (c : Int) : Bool := decide (48 ≤ c) && decide (c ≤ 57)
def largeC (c : Int) : Bool := decide (65 ≤ c) && decide (c ≤ 90)

theorem in_eq (c a b : Int) : impl_in.f c a b = some (decide (a ≤ c) && decide (c ≤ b)) := by
  unfold impl_in.f; split <;> simp [*] <;> omega

theorem isSmall_eq (c : Int) : impl_isSmall.f c = some (smallC c) := by
  unfold impl_isSmall.f smallC; split <;> simp [*] <;> omega

theorem isDigit_eq (c : Int) : impl_isDigit.f c = some (digitC c) := by
  unfold impl_isDigit.f digitC; split <;> simp [*] <;> omega

theorem l1In_eq (c a b : Int) : spec_l1In.f c a b = some (decide (a ≤ c) && decide (c ≤ b)) := by
  unfold spec_l1In.f; split <;> simp [*] <;> omega

theorem l1Small_eq (c : Int) (h : wrap64 c = c) : spec_l1Small.f c = some (smallC c) := by
  unfold spec_l1Small.f; rw [h, l1In_eq]; rfl

theorem l1Digit_eq (c : Int) (h : wrap64 c = c) : spec_l1Digit.f c = some (digitC c) := by
  unfold spec_l1Digit.f; rw [h, l1In_eq]; rfl

/-- a small name -/
def snC (first : Bool) (c : Int) : Bool := smallC c || (!first && (digitC c || decide (c = 45)))
def snB : Nat → List Int → Bool
  | _, [] => true
  | i, c :: r => snC (i == 0) c && snB (i + 1) r
def smallName (s : ByteArray) : Bool := snB 0 (bytesOf s) && lenB s 1 20
theorem impl_SmallName_ev (s : ByteArray) (hs : s.size ≤ 140737488351232) : Ev (fun k => impl_SmallName.f k s) (smallName s) := by
  refine str_loop_st s (fun i (_ : Unit) k => impl_SmallName.l0 k s (i : Int)) (fun i _ r => snB i r && lenB s 1 20) (fun _ _ _ => True) ?_ ?_ hs 0 () trivial
  · intro i _ _ hi
    apply ev_succ; simp only [impl_SmallName.l0, if_neg (show ¬ (i : Int) < s.size by omega), in_eq, Option.bind_some]; exact Ev.now _
  · intro i _ c r _ h hb hi hw hw1 ih
    replace ih := ih () trivial
    apply ev_succ
    simp only [impl_SmallName.l0, if_pos (show (i : Int) < s.size by omega), if_pos (show (0 : Int) ≤ i by omega), hb, isSmall_eq, isDigit_eq, Option.bind_some, hw1]
    refine ev_iteB (fun q => ?_) (fun q => ev_ite (fun q0 => ?_) (fun q0 => ?_))
    · simpa [snB, snC, q] using ih
    · have : i = 0 := by omega
      subst this; simpa [snB, snC, q] using Ev.now false
    · have hi0 : (i == 0) = false := by simp; omega
      refine ev_iteB (fun q1 => ?_) (fun q1 => ev_ite (fun q2 => ?_) (fun q2 => ?_))
      · simpa [snB, snC, q, hi0, q1] using ih
      · subst q2; simpa [snB, snC, q, hi0, q1] using ih
      · simpa [snB, snC, q, hi0, q1, q2] using Ev.now false
theorem spec_SmallName_ev (s : ByteArray) (hs : s.size ≤ 140737488351232) : Ev (fun k => spec_SmallName.f k s) (smallName s) := by
  refine str_loop_st s (fun i (_ : Unit) k => spec_SmallName.l0 k s (i : Int)) (fun i _ r => snB i r && lenB s 1 20) (fun _ _ _ => True) ?_ ?_ hs 0 () trivial
  · intro i _ _ hi
    apply ev_succ; simp only [spec_SmallName.l0, if_neg (show ¬ (i : Int) < s.size by omega), l1In_eq, Option.bind_some]; exact Ev.now _
  · intro i _ c r _ h hb hi hw hw1 ih
    replace ih := ih () trivial
    apply ev_succ
    simp only [spec_SmallName.l0, if_pos (show (i : Int) < s.size by omega), if_pos (show (0 : Int) ≤ i by omega), hb, l1Small_eq c hw, l1Digit_eq c hw, Option.bind_some, hw1]
    refine ev_iteB (fun q => ?_) (fun q => ev_ite (fun q0 => ?_) (fun q0 => ?_))
    · simpa [snB, snC, q] using ih
    · have : i = 0 := by omega
      subst this; simpa [snB, snC, q] using Ev.now false
    · have hi0 : (i == 0) = false := by simp; omega
      refine ev_iteB (fun q1 => ?_) (fun q1 => ev_ite (fun q2 => ?_) (fun q2 => ?_))
      · simpa [snB, snC, q, hi0, q1] using ih
      · subst q2; simpa [snB, snC, q, hi0, q1] using ih
      · simpa [snB, snC, q, hi0, q1, q2] using Ev.now false

theorem isPlain_eq (c : Int) : impl_isPlain.f c = some (plainC c) := by
  unfold impl_isPlain.f plainC; split <;> simp [*] <;> omega
def plainB (l : List Int) : Bool := l.all plainC
theorem impl_Plain_ev (s : ByteArray) (hs : s.size ≤ 140737488351232) : Ev (fun k => impl_Plain.f k s) (plainB (bytesOf s)) := by
  refine str_loop s (fun i k => impl_Plain.l0 k s (i : Int)) plainB ?_ ?_ hs 0
  · intro i hi
    apply ev_succ; simp only [impl_Plain.l0, if_neg (show ¬ (i : Int) < s.size by omega)]; exact Ev.now _
  · intro i c r h hb hi hw hw1 ih
    apply ev_succ
    simp only [impl_Plain.l0, if_pos (show (i : Int) < s.size by omega), if_pos (show (0 : Int) ≤ i by omega), hb, isPlain_eq, Option.bind_some, hw1]
    refine ev_ite (fun h => ?_) (fun h => ?_)
    · simpa [plainB, h] using ih
    · simpa [plainB, h] using Ev.now _
theorem spec_Plain_ev (s : ByteArray) (hs : s.size ≤ 140737488351232) : Ev (fun k => spec_Plain.f k s) (plainB (bytesOf s)) := by
  refine str_loop s (fun i k => spec_Plain.l0 k s (i : Int)) plainB ?_ ?_ hs 0
  · intro i hi
    apply ev_succ; simp only [spec_Plain.l0, if_neg (show ¬ (i : Int) < s.size by omega)]; exact Ev.now _
  · intro i c r h hb hi hw hw1 ih
    apply ev_succ
    simp only [spec_Plain.l0, if_pos (show (i : Int) < s.size by omega), if_pos (show (0 : Int) ≤ i by omega), hb, hw, l1In_eq, Option.bind_some, hw1]
    refine ev_ite (fun h => ?_) (fun h => ?_)
    · have : plainC c = true := h
      simpa [plainB, this] using ih
    · have : plainC c = false := by simpa [plainC] using h
      simpa [plainB, this] using Ev.now _

def blankC (c : Int) : Bool := decide (c = 32) || decide (c = 9)
def trimL (l : List Int) : List Int := l.dropWhile blankC
def trimR (l : List Int) : List Int := (l.reverse.dropWhile blankC).reverse
theorem trimR_cons (c : Int) (r : List Int) : trimR (c :: r) = if trimR r = [] then (if blankC c = true then [] else [c]) else c :: trimR r := by
  unfold trimR
  rw [List.reverse_cons, List.dropWhile_append]
  by_cases h : r.reverse.dropWhile blankC = []
  · rw [h]
    by_cases q : blankC c = true
    · simp [q]
    · simp [q]
  · have : (r.reverse.dropWhile blankC).isEmpty = false := by simpa using h
    rw [this]
    simp [h]
theorem trim_comm : ∀ l : List Int, trimL (trimR l) = trimR (trimL l)
  | [] => rfl
  | c :: r => by
    have ih := trim_comm r
    rw [trimR_cons]
    by_cases q : blankC c = true
    · have e : trimL (c :: r) = trimL r := by unfold trimL; rw [List.dropWhile_cons_of_pos q]
      rw [e, ← ih]
      by_cases h : trimR r = []
      · rw [if_pos h, if_pos q, h]
      · rw [if_neg h]
        unfold trimL; rw [List.dropWhile_cons_of_pos q]
    · have e : ∀ x : List Int, trimL (c :: x) = c :: x := fun x => by unfold trimL; rw [List.dropWhile_cons_of_neg q]
      rw [e, trimR_cons]
      by_cases h : trimR r = []
      · rw [if_pos h, if_neg q]; exact e []
      · rw [if_neg h]; exact e _
def trim (s : ByteArray) : ByteArray := strOfNums (trimL (trimR (bytesOf s)))
theorem mem_trim {l : List Int} {x : Int} (h : x ∈ trimL (trimR l)) : x ∈ l := by
  unfold trimL trimR at h
  have h1 := (List.dropWhile_sublist _).subset h
  have h2 := (List.dropWhile_sublist _).subset (List.mem_reverse.1 h1)
  exact List.mem_reverse.1 h2
theorem trim_bytes (s : ByteArray) : bytesOf (trim s) = trimL (trimR (bytesOf s)) := bytesOf_strOfNums _ (fun x hx => bytesOf_range s x (mem_trim hx))
theorem trim_size (s : ByteArray) : (trim s).size ≤ s.size := by
  rw [size_len, trim_bytes, size_len]
  unfold trimL trimR
  have h1 := (List.dropWhile_sublist blankC (l := ((bytesOf s).reverse.dropWhile blankC).reverse)).length_le
  have h2 := (List.dropWhile_sublist blankC (l := (bytesOf s).reverse)).length_le
  simp only [List.length_reverse] at h1 h2
  omega
theorem dropWhile_map_ {α β : Type} (f : α → β) (p : β → Bool) : ∀ l : List α, (l.map f).dropWhile p = (l.dropWhile (fun x => p (f x))).map f
  | [] => rfl
  | x :: r => by
    rw [List.map_cons]
    by_cases q : p (f x) = true
    · rw [List.dropWhile_cons_of_pos q, List.dropWhile_cons_of_pos (by exact q), dropWhile_map_ f p r]
    · rw [List.dropWhile_cons_of_neg q, List.dropWhile_cons_of_neg (by exact q), List.map_cons]
theorem blank_u8 (b : UInt8) : ([32, 9] : List UInt8).contains b = blankC (b.toNat : Int) := by
  have H : ∀ n : Fin 256, ([32, 9] : List UInt8).contains (UInt8.ofNat n.val) = blankC (n.val : Int) := by decide +kernel
  have := H ⟨b.toNat, b.toNat_lt⟩
  simpa using this
theorem impl_Trim_eq (s : ByteArray) (hs : s.size ≤ 140737488351232) : impl_Trim.f s = some (trim s) := by
  unfold impl_Trim.f strings_Trim.f
  rw [if_pos ⟨by omega, by decide, by decide⟩]
  simp only [Option.bind_some]
  congr 1
  apply bytesOf_inj
  rw [trim_bytes, bytesOf_mk]
  unfold Lib.trimS Lib.trimLeftS Lib.trimRightS trimL trimR bytesOf
  have e : (fun x : UInt8 => ([32, 9] : List UInt8).contains x) = fun x => blankC (x.toNat : Int) := funext blank_u8
  show List.map _ (List.dropWhile (fun x => ([32, 9] : List UInt8).contains x) (List.dropWhile (fun x => ([32, 9] : List UInt8).contains x) s.data.toList.reverse).reverse) = _
  rw [e, ← List.map_reverse, dropWhile_map_, ← List.map_reverse, dropWhile_map_]
theorem l1Blank_eq (c : Int) : spec_l1Blank.f c = some (blankC c) := by
  unfold spec_l1Blank.f blankC
  by_cases h : c = 32
  · rw [if_pos h]; simp [h]
  · rw [if_neg h]; simp [h]; rfl
theorem bytesOf_one {x : ByteArray} {c : Int} {r : List Int} (h : bytesOf x = c :: r) : bt x 0 = c ∧ bytesOf (x.extract 1 x.size) = r ∧ x.size = r.length + 1 := by
  have hd : (bytesOf x).drop 0 = c :: r := by simpa using h
  obtain ⟨h1, h2, h3⟩ := bt_drop hd
  refine ⟨by simpa using h1, ?_, by rw [size_len, h]; rfl⟩
  rw [bytesOf_extract, List.take_of_length_le (by rw [← size_len]; exact Nat.le_refl _)]
  exact h3
theorem bytesOf_last {x : ByteArray} {c : Int} {r : List Int} (h : bytesOf x = r ++ [c]) : bt x (r.length : Int) = c ∧ bytesOf (x.extract 0 r.length) = r ∧ x.size = r.length + 1 := by
  have hd : (bytesOf x).drop r.length = [c] := by rw [h]; simp
  obtain ⟨h1, h2, h3⟩ := bt_drop hd
  refine ⟨h1, ?_, by rw [size_len, h]; simp⟩
  rw [bytesOf_extract, h]
  simp
theorem spec_Trim_l1 : ∀ (l : List Int) (x : ByteArray), bytesOf x = l.reverse → x.size ≤ 1048576 → Ev (fun k => spec_Trim.l1 k x) (strOfNums (trimR (bytesOf x)))
  | [], x, h, hs => by
    have h0 : x.size = 0 := by rw [size_len, h]; rfl
    apply ev_succ; simp only [spec_Trim.l1, if_neg (show ¬ (x.size : Int) > 0 by omega)]
    rw [h]
    have : x = strOfNums (trimR ([] : List Int).reverse) := by rw [← strOfNums_bytesOf x, h]; rfl
    rw [← this]; exact Ev.now _
  | c :: r, x, h, hs => by
    rw [List.reverse_cons] at h
    obtain ⟨h1, h2, h3⟩ := bytesOf_last h
    rw [List.length_reverse] at h1 h2 h3
    apply ev_succ
    simp only [spec_Trim.l1, if_pos (show (x.size : Int) > 0 by omega), show wrap64 ((x.size : Int) - 1) = (r.length : Int) from by rw [wrap_id (by omega) (by omega)]; omega, if_pos (show (0 : Int) ≤ (r.length : Int) by omega), if_pos (show (r.length : Int) < (x.size : Int) by omega), if_pos (show (r.length : Int) ≤ (x.size : Int) by omega), h1, l1Blank_eq, Option.bind_some, Int.toNat_natCast]
    refine ev_iteB (fun q => ?_) (fun q => ?_)
    · have ih := spec_Trim_l1 r (x.extract 0 r.length) h2 (by rw [size_len, h2, List.length_reverse]; omega)
      have e : trimR (bytesOf x) = trimR (bytesOf (x.extract 0 r.length)) := by
        rw [h, h2]
        unfold trimR
        rw [List.reverse_append, List.reverse_reverse]
        show (List.dropWhile blankC (c :: r)).reverse = _
        rw [List.dropWhile_cons_of_pos q]
      rw [e]; exact ih
    · have e : trimR (bytesOf x) = bytesOf x := by
        rw [h]
        unfold trimR
        rw [List.reverse_append, List.reverse_reverse]
        show (List.dropWhile blankC (c :: r)).reverse = _
        rw [List.dropWhile_cons_of_neg (by rw [q]; simp), List.reverse_cons]
      rw [e, strOfNums_bytesOf]; exact Ev.now _
theorem spec_Trim_l0 : ∀ (l : List Int) (x : ByteArray), bytesOf x = l → x.size ≤ 1048576 → Ev (fun k => spec_Trim.l0 k x) (strOfNums (trimR (trimL (bytesOf x))))
  | [], x, h, hs => by
    have h0 : x.size = 0 := by rw [size_len, h]; rfl
    apply ev_succ; simp only [spec_Trim.l0, if_neg (show ¬ (x.size : Int) > 0 by omega)]
    apply ev_succ; simp only [spec_Trim.j1]
    have := spec_Trim_l1 [] x h hs
    rwa [show trimL (bytesOf x) = bytesOf x by rw [h]; rfl]
  | c :: r, x, h, hs => by
    obtain ⟨h1, h2, h3⟩ := bytesOf_one h
    apply ev_succ
    simp only [spec_Trim.l0, if_pos (show (x.size : Int) > 0 by omega), if_pos (show (0 : Int) < (x.size : Int) by omega), if_pos (show (1 : Int) ≤ (x.size : Int) by omega), h1, l1Blank_eq, Option.bind_some]
    refine ev_iteB (fun q => ?_) (fun q => ?_)
    · have ih := spec_Trim_l0 r (x.extract 1 x.size) h2 (by rw [size_len, h2]; omega)
      have e : trimL (bytesOf x) = trimL (bytesOf (x.extract 1 x.size)) := by
        rw [h, h2]
        unfold trimL
        rw [List.dropWhile_cons_of_pos q]
      rw [e]; exact ih
    · have e : trimL (bytesOf x) = bytesOf x := by
        rw [h]
        unfold trimL
        rw [List.dropWhile_cons_of_neg (by rw [q]; simp)]
      rw [e]
      apply ev_succ; simp only [spec_Trim.j1]
      exact spec_Trim_l1 (bytesOf x).reverse x (by rw [List.reverse_reverse]) hs
theorem spec_Trim_ev (s : ByteArray) (hs : s.size ≤ 1048576) : Ev (fun k => spec_Trim.f k s) (trim s) := by
  unfold spec_Trim.f trim
  rw [trim_comm]
  exact spec_Trim_l0 _ s rfl hs

def valOk (s : ByteArray) : Bool := decide ((s.size : Int) ≤ 60) && (plainB (bytesOf s) && ((trim s).toList == s.toList))
def nameFree (s : ByteArray) : Bool := decide (¬ s.toList = ([99, 111, 110, 116, 101, 110, 116, 45, 108, 101, 110, 103, 116, 104] : List UInt8)) && decide (¬ s.toList = ([116, 114, 97, 110, 115, 102, 101, 114, 45, 101, 110, 99, 111, 100, 105, 110, 103] : List UInt8))
def headOk (h : S102) : Bool := smallName h.f0 && (valOk h.f1 && nameFree h.f0)
def headsOkL (l : List S102) : Bool := l.all headOk
def headsOk (l : List S102) : Bool := headsOkL l && decide ((l.length : Int) ≤ 8)
theorem impl_valOk_ev (s : ByteArray) (hs : s.size ≤ 1048576) : Ev (fun k => impl_valOk.f k s) (valOk s) := by
  unfold impl_valOk.f valOk
  refine ev_ite (fun q => ?_) (fun q => ?_)
  · rw [decide_eq_true q, Bool.true_and]
    refine Ev.bind (impl_Plain_ev s (by omega)) (ev_iteB (fun q1 => ?_) (fun q1 => ?_))
    · rw [q1, Bool.true_and]
      simp only [impl_Trim_eq s (by omega), Option.bind_some]; exact Ev.now _
    · rw [q1, Bool.false_and]; exact Ev.now _
  · rw [decide_eq_false q, Bool.false_and]; exact Ev.now _
theorem spec_l3Val_ev (s : ByteArray) (hs : s.size ≤ 1048576) : Ev (fun k => spec_l3Val.f k s) (valOk s) := by
  unfold spec_l3Val.f valOk
  refine ev_ite (fun q => ?_) (fun q => ?_)
  · rw [decide_eq_true q, Bool.true_and]
    refine Ev.bind (spec_Plain_ev s (by omega)) (ev_iteB (fun q1 => ?_) (fun q1 => ?_))
    · rw [q1, Bool.true_and]
      refine Ev.bind (spec_Trim_ev s hs) ?_
      exact Ev.now _
    · rw [q1, Bool.false_and]; exact Ev.now _
  · rw [decide_eq_false q, Bool.false_and]; exact Ev.now _
theorem impl_headsOk_ev (l : List S102) (hl : l.length ≤ 9223372036854775806) (hs : ∀ x ∈ l, x.f0.size ≤ 1048576 ∧ x.f1.size ≤ 1048576) : Ev (fun k => impl_headsOk.f k l) (headsOk l) := by
  refine list_loop_st l hl (fun i (_ : Unit) k => impl_headsOk.l0 k l l (l.length : Int) (i : Int)) (fun _ _ r => headsOkL r && decide ((l.length : Int) ≤ 8)) (fun _ _ r => ∀ x ∈ r, x.f0.size ≤ 1048576 ∧ x.f1.size ≤ 1048576) ?_ ?_ 0 () hs
  · intro i _ _ hi
    apply ev_succ; simp only [impl_headsOk.l0, if_neg (show ¬ (i : Int) < l.length by omega)]; exact Ev.now _
  · intro i _ c r hr h hb hi hw1 ih
    have hbb : rd_T102 l (i : Int) = c := hb _
    obtain ⟨hc0, hc1⟩ := hr c (by simp)
    replace ih := ih () (fun x hx => hr x (by simp [hx]))
    apply ev_succ
    simp only [impl_headsOk.l0, if_pos (show (i : Int) < l.length by omega), if_pos (show (0 : Int) ≤ i by omega), hbb, hw1]
    refine Ev.bind (impl_SmallName_ev c.f0 (by omega)) (ev_iteB (fun q1 => ?_) (fun q1 => ?_))
    · refine Ev.bind (impl_valOk_ev c.f1 (by omega)) (ev_iteB (fun q2 => ?_) (fun q2 => ?_))
      · refine ev_ite (fun q3 => ?_) (fun q3 => ev_ite (fun q4 => ?_) (fun q4 => ?_))
        · rw [show (headsOkL (c :: r) && decide ((l.length : Int) ≤ 8)) = false by simp [headsOkL, headOk, nameFree, q3]]; exact Ev.now _
        · rw [show (headsOkL (c :: r) && decide ((l.length : Int) ≤ 8)) = false by simp [headsOkL, headOk, nameFree, q4]]; exact Ev.now _
        · rw [show headsOkL (c :: r) = headsOkL r by simp [headsOkL, headOk, nameFree, q1, q2, q3, q4]]; exact ih
      · rw [show (headsOkL (c :: r) && decide ((l.length : Int) ≤ 8)) = false by simp [headsOkL, headOk, q2]]; exact Ev.now _
    · rw [show (headsOkL (c :: r) && decide ((l.length : Int) ≤ 8)) = false by simp [headsOkL, headOk, q1]]; exact Ev.now _
theorem spec_l3Heads_ev (l : List S102) (hl : l.length ≤ 9223372036854775806) (hs : ∀ x ∈ l, x.f0.size ≤ 1048576 ∧ x.f1.size ≤ 1048576) : Ev (fun k => spec_l3Heads.f k l) (headsOk l) := by
  refine list_loop_st l hl (fun i (_ : Unit) k => spec_l3Heads.l0 k l (i : Int)) (fun _ _ r => headsOkL r && decide ((l.length : Int) ≤ 8)) (fun _ _ r => ∀ x ∈ r, x.f0.size ≤ 1048576 ∧ x.f1.size ≤ 1048576) ?_ ?_ 0 () hs
  · intro i _ _ hi
    apply ev_succ; simp only [spec_l3Heads.l0, if_neg (show ¬ (i : Int) < l.length by omega)]; exact Ev.now _
  · intro i _ c r hr h hb hi hw1 ih
    have hbb : rd_T102 l (i : Int) = c := hb _
    obtain ⟨hc0, hc1⟩ := hr c (by simp)
    replace ih := ih () (fun x hx => hr x (by simp [hx]))
    apply ev_succ
    simp only [spec_l3Heads.l0, if_pos (show (i : Int) < l.length by omega), if_pos (show (0 : Int) ≤ i by omega), hbb, hw1]
    refine Ev.bind (spec_SmallName_ev c.f0 (by omega)) (ev_iteB (fun q1 => ?_) (fun q1 => ?_))
    · refine Ev.bind (spec_l3Val_ev c.f1 (by omega)) (ev_iteB (fun q2 => ?_) (fun q2 => ?_))
      · refine ev_ite (fun q3 => ?_) (fun q3 => ev_ite (fun q4 => ?_) (fun q4 => ?_))
        · rw [show (headsOkL (c :: r) && decide ((l.length : Int) ≤ 8)) = false by simp [headsOkL, headOk, nameFree, q3]]; exact Ev.now _
        · rw [show (headsOkL (c :: r) && decide ((l.length : Int) ≤ 8)) = false by simp [headsOkL, headOk, nameFree, q4]]; exact Ev.now _
        · rw [show headsOkL (c :: r) = headsOkL r by simp [headsOkL, headOk, nameFree, q1, q2, q3, q4]]; exact ih
      · rw [show (headsOkL (c :: r) && decide ((l.length : Int) ≤ 8)) = false by simp [headsOkL, headOk, q2]]; exact Ev.now _
    · rw [show (headsOkL (c :: r) && decide ((l.length : Int) ≤ 8)) = false by simp [headsOkL, headOk, q1]]; exact Ev.now _

def sameReqV (m p : ByteArray) (l : List S102) (b : ByteArray) (m' p' : ByteArray) (l' : List S102) (b' : ByteArray) : Prop := m = m' ∧ p = p' ∧ l = l' ∧ b = b'
theorem isLarge_eq (c : Int) : impl_isLarge.f c = some (largeC c) := by
  unfold impl_isLarge.f largeC; split <;> simp [*] <;> omega

theorem l1Large_eq (c : Int) (h : wrap64 c = c) : spec_l1Large.f c = some (largeC c) := by
  unfold spec_l1Large.f; rw [h, l1In_eq]; rfl

theorem lit_iff (s : ByteArray) (l : List UInt8) : s.toList = l ↔ bytesOf s = l.map fun b => (b.toNat : Int) := by
  rw [Lib.toList_data]
  unfold bytesOf
  constructor
  · intro h; rw [h]
  · intro h; exact List.map_inj_right (fun x y hxy => UInt8.toNat_inj.mp (by omega)) |>.mp h
theorem indexByte_mem : ∀ (l : List UInt8) (c : UInt8), 0 ≤ Lib.indexByte l c ↔ c ∈ l
  | [], c => by simp [Lib.indexByte]
  | b :: l, c => by
    have ih := indexByte_mem l c
    have hg := Lib.indexByte_ge l c
    simp only [Lib.indexByte]
    by_cases h : b = c
    · subst h; simp
    · have h' : (b == c) = false := by simpa using h
      have h2 : ¬ c = b := fun e => h e.symm
      rw [h']
      simp only [Bool.false_eq_true, if_false, List.mem_cons, h2, false_or, ← ih]
      by_cases q : Lib.indexByte l c = -1
      · simp [q]
      · have : (Lib.indexByte l c == -1) = false := by simpa using q
        rw [this]; simp only [Bool.false_eq_true, if_false]; omega
theorem mem_bytes (s : ByteArray) (c : UInt8) : c ∈ s.data.toList ↔ (c.toNat : Int) ∈ bytesOf s := by
  unfold bytesOf
  rw [List.mem_map]
  constructor
  · intro h; exact ⟨c, h, rfl⟩
  · rintro ⟨d, hd, he⟩
    have : d = c := UInt8.toNat_inj.mp (by omega)
    rw [← this]; exact hd

def targetC (c : Int) : Bool := decide (33 ≤ c) && decide (c ≤ 126)
def targetOk (p : ByteArray) : Bool := lenB p 1 80 && (bytesOf p).all targetC
def methodOk (m : ByteArray) : Bool := (bytesOf m).all largeC && lenB m 1 9
def reqOk (m p : ByteArray) (l : List S102) (b : ByteArray) : Bool := methodOk m && (targetOk p && (headsOk l && decide ((b.size : Int) ≤ 200)))
theorem target_plain : ∀ l : List Int, l.all targetC = (plainB l && !decide ((32 : Int) ∈ l))
  | [] => rfl
  | c :: r => by
    have ih := target_plain r
    unfold plainB at ih ⊢
    rw [List.all_cons, List.all_cons, ih]
    have e : decide ((32 : Int) ∈ c :: r) = (decide (c = 32) || decide ((32 : Int) ∈ r)) := by
      rw [Bool.eq_iff_iff, Bool.or_eq_true, decide_eq_true_iff, decide_eq_true_iff, decide_eq_true_iff, List.mem_cons]; exact ⟨fun h => h.elim (fun e => .inl e.symm) .inr, fun h => h.elim (fun e => .inl e.symm) .inr⟩
    rw [e]
    have h1 : targetC c = (plainC c && !decide (c = 32)) := by
      unfold targetC plainC
      rw [Bool.eq_iff_iff]; simp; omega
    rw [h1]
    cases plainC c <;> cases decide (c = 32) <;> cases r.all plainC <;> cases decide ((32 : Int) ∈ r) <;> rfl
theorem impl_lineOk_ev (m p : ByteArray) (hm : m.size ≤ 1048576) (hp : p.size ≤ 1048576) : Ev (fun k => impl_lineOk.f k m p) (methodOk m && targetOk p) := by
  unfold methodOk
  rw [Bool.and_assoc]
  refine str_loop m (fun i k => impl_lineOk.l0 k m p (i : Int)) (fun r => r.all largeC && (lenB m 1 9 && targetOk p)) ?_ ?_ (by omega) 0
  · intro i hi
    apply ev_succ
    simp only [impl_lineOk.l0, if_neg (show ¬ (i : Int) < m.size by omega), in_eq, Option.bind_some]
    rw [List.all_nil, Bool.true_and]
    refine ev_iteB (fun q => ?_) (fun q => ?_)
    · rw [show lenB m 1 9 = true from q, Bool.true_and]
      refine ev_iteB (fun q1 => ?_) (fun q1 => ?_)
      · rw [show targetOk p = (bytesOf p).all targetC by unfold targetOk; rw [show lenB p 1 80 = true from q1, Bool.true_and], target_plain]
        refine Ev.bind (impl_Plain_ev p (by omega)) (ev_iteB (fun q2 => ?_) (fun q2 => ?_))
        · rw [q2, Bool.true_and]
          have e0 : strings_Contains.f p (⟨#[32]⟩ : ByteArray) = some (decide (0 ≤ Lib.indexByte p.data.toList 32)) := rfl
          have e1 : (0 ≤ Lib.indexByte p.data.toList 32) ↔ (32 : Int) ∈ bytesOf p := (indexByte_mem _ _).trans (mem_bytes p 32)
          simp only [e0, Option.bind_some, decide_eq_decide.2 e1]; exact Ev.now _
        · rw [q2, Bool.false_and]; exact Ev.now _
      · rw [show targetOk p = false by unfold targetOk; rw [show lenB p 1 80 = false from q1, Bool.false_and]]; exact Ev.now _
    · rw [show lenB m 1 9 = false from q, Bool.false_and]; exact Ev.now _
  · intro i c r h hb hi hw hw1 ih
    apply ev_succ
    simp only [impl_lineOk.l0, if_pos (show (i : Int) < m.size by omega), if_pos (show (0 : Int) ≤ i by omega), hb, isLarge_eq, Option.bind_some, hw1]
    refine ev_iteB (fun q => ?_) (fun q => ?_)
    · rw [List.all_cons, q, Bool.true_and]; exact ih
    · rw [List.all_cons, q, Bool.false_and, Bool.false_and]; exact Ev.now _
theorem spec_l3Method_ev (m : ByteArray) (hm : m.size ≤ 1048576) : Ev (fun k => spec_l3Method.f k m) (methodOk m) := by
  refine str_loop m (fun i k => spec_l3Method.l0 k m (i : Int)) (fun r => r.all largeC && lenB m 1 9) ?_ ?_ (by omega) 0
  · intro i hi
    apply ev_succ
    simp only [spec_l3Method.l0, if_neg (show ¬ (i : Int) < m.size by omega), l1In_eq, Option.bind_some]
    rw [List.all_nil, Bool.true_and]; exact Ev.now _
  · intro i c r h hb hi hw hw1 ih
    apply ev_succ
    simp only [spec_l3Method.l0, if_pos (show (i : Int) < m.size by omega), if_pos (show (0 : Int) ≤ i by omega), hb, l1Large_eq c hw, Option.bind_some, hw1]
    refine ev_iteB (fun q => ?_) (fun q => ?_)
    · rw [List.all_cons, q, Bool.true_and]; exact ih
    · rw [List.all_cons, q, Bool.false_and, Bool.false_and]; exact Ev.now _
theorem spec_l3Target_ev (p : ByteArray) (hp : p.size ≤ 1048576) : Ev (fun k => spec_l3Target.f k p) (targetOk p) := by
  unfold targetOk
  rw [Bool.and_comm]
  refine str_loop p (fun i k => spec_l3Target.l0 k p (i : Int)) (fun r => r.all targetC && lenB p 1 80) ?_ ?_ (by omega) 0
  · intro i hi
    apply ev_succ
    simp only [spec_l3Target.l0, if_neg (show ¬ (i : Int) < p.size by omega), l1In_eq, Option.bind_some]
    rw [List.all_nil, Bool.true_and]; exact Ev.now _
  · intro i c r h hb hi hw hw1 ih
    apply ev_succ
    simp only [spec_l3Target.l0, if_pos (show (i : Int) < p.size by omega), if_pos (show (0 : Int) ≤ i by omega), hb, hw, l1In_eq, Option.bind_some, hw1]
    refine ev_iteB (fun q => ?_) (fun q => ?_)
    · rw [List.all_cons, show targetC c = true from q, Bool.true_and]; exact ih
    · rw [List.all_cons, show targetC c = false from q, Bool.false_and, Bool.false_and]; exact Ev.now _
theorem impl_ReqOk_ev (m p : ByteArray) (l : List S102) (b : ByteArray) (hm : m.size ≤ 1048576) (hp : p.size ≤ 1048576) (hl : l.length ≤ 9223372036854775806) (hs : ∀ x ∈ l, x.f0.size ≤ 1048576 ∧ x.f1.size ≤ 1048576) : Ev (fun k => impl_ReqOk.f k m p l b) (reqOk m p l b) := by
  unfold impl_ReqOk.f reqOk
  rw [← Bool.and_assoc]
  refine Ev.bind (impl_lineOk_ev m p hm hp) (ev_iteB (fun q => ?_) (fun q => ?_))
  · rw [q, Bool.true_and]
    refine Ev.bind (impl_headsOk_ev l hl hs) (ev_iteB (fun q1 => ?_) (fun q1 => ?_))
    · rw [q1, Bool.true_and]; exact Ev.now _
    · rw [q1, Bool.false_and]; exact Ev.now _
  · rw [q, Bool.false_and]; exact Ev.now _
theorem spec_ReqOk_ev (m p : ByteArray) (l : List S102) (b : ByteArray) (hm : m.size ≤ 1048576) (hp : p.size ≤ 1048576) (hl : l.length ≤ 9223372036854775806) (hs : ∀ x ∈ l, x.f0.size ≤ 1048576 ∧ x.f1.size ≤ 1048576) : Ev (fun k => spec_ReqOk.f k m p l b) (reqOk m p l b) := by
  unfold spec_ReqOk.f reqOk
  refine Ev.bind (spec_l3Method_ev m hm) (ev_iteB (fun q => ?_) (fun q => ?_))
  · rw [q, Bool.true_and]
    refine Ev.bind (spec_l3Target_ev p hp) (ev_iteB (fun q0 => ?_) (fun q0 => ?_))
    · rw [q0, Bool.true_and]
      refine Ev.bind (spec_l3Heads_ev l hl hs) (ev_iteB (fun q1 => ?_) (fun q1 => ?_))
      · rw [q1, Bool.true_and]; exact Ev.now _
      · rw [q1, Bool.false_and]; exact Ev.now _
    · rw [q0, Bool.false_and]; exact Ev.now _
  · rw [q, Bool.false_and]; exact Ev.now _

theorem impl_sameHeads_ev (a b : List S102) (ha : a.length ≤ 9223372036854775806) : Ev (fun k => impl_sameHeads.f k a b) (eqb a b) := by
  unfold impl_sameHeads.f
  refine ev_ite (fun q => ?_) (fun q => ?_)
  · have q' : a.length = b.length := by omega
    refine eq_loop a b (· = ·) q' ha (fun i k => impl_sameHeads.l0 k a b (a.length : Int) (i : Int)) _ ((eqb_iff a b).trans (list_eq_iff a b q')) ?_ ?_
    · intro i hi
      apply ev_succ; simp only [impl_sameHeads.l0, if_neg (show ¬ (i : Int) < a.length by omega)]; exact Ev.now _
    · intro i x y v hi hx hy hw1 ih
      have hxx : rd_T102 a (i : Int) = x := hx _
      have hyy : rd_T102 b (i : Int) = y := hy _
      refine ⟨fun hR => ?_, fun hR => ?_⟩
      · apply ev_succ
        subst hR
        simp only [impl_sameHeads.l0, if_pos (show (i : Int) < a.length by omega), if_pos (show (0 : Int) ≤ i by omega), if_pos (show (i : Int) < b.length by omega), hxx, hyy, hw1, beq_self_eq_true, Bool.not_true, Bool.or_self, Bool.false_eq_true, if_false]; exact ih
      · apply ev_succ
        simp only [impl_sameHeads.l0, if_pos (show (i : Int) < a.length by omega), if_pos (show (0 : Int) ≤ i by omega), if_pos (show (i : Int) < b.length by omega), hxx, hyy, hw1]
        refine ev_ite (fun _ => Ev.now _) (fun hn => absurd ?_ hn)
        rw [head_eq] at hR
        simp only [Bool.or_eq_true, Bool.not_eq_true', beq_eq_false_iff_ne, ne_eq, toList_iff]
        by_cases e0 : x.f0 = y.f0
        · exact .inr (fun e1 => hR ⟨e0, e1⟩)
        · exact .inl e0
  · rw [eqb_ne (fun h => q (by rw [h]))]; exact Ev.now _
theorem spec_l3SameHeads_ev (a b : List S102) (ha : a.length ≤ 9223372036854775806) : Ev (fun k => spec_l3SameHeads.f k a b) (eqb a b) := by
  unfold spec_l3SameHeads.f
  refine ev_ite (fun q => ?_) (fun q => ?_)
  · have q' : a.length = b.length := by omega
    refine eq_loop a b (· = ·) q' ha (fun i k => spec_l3SameHeads.l0 k a b (i : Int)) _ ((eqb_iff a b).trans (list_eq_iff a b q')) ?_ ?_
    · intro i hi
      apply ev_succ; simp only [spec_l3SameHeads.l0, if_neg (show ¬ (i : Int) < a.length by omega)]; exact Ev.now _
    · intro i x y v hi hx hy hw1 ih
      have hxx : rd_T102 a (i : Int) = x := hx _
      have hyy : rd_T102 b (i : Int) = y := hy _
      refine ⟨fun hR => ?_, fun hR => ?_⟩
      · apply ev_succ
        subst hR
        simp only [spec_l3SameHeads.l0, if_pos (show (i : Int) < a.length by omega), if_pos (show (0 : Int) ≤ i by omega), if_pos (show (i : Int) < b.length by omega), hxx, hyy, hw1, beq_self_eq_true, Bool.not_true, Bool.or_self, Bool.false_eq_true, if_false]; exact ih
      · apply ev_succ
        simp only [spec_l3SameHeads.l0, if_pos (show (i : Int) < a.length by omega), if_pos (show (0 : Int) ≤ i by omega), if_pos (show (i : Int) < b.length by omega), hxx, hyy, hw1]
        refine ev_ite (fun _ => Ev.now _) (fun hn => absurd ?_ hn)
        rw [head_eq] at hR
        simp only [Bool.or_eq_true, Bool.not_eq_true', beq_eq_false_iff_ne, ne_eq, toList_iff]
        by_cases e0 : x.f0 = y.f0
        · exact .inr (fun e1 => hR ⟨e0, e1⟩)
        · exact .inl e0
  · rw [eqb_ne (fun h => q (by rw [h]))]; exact Ev.now _
theorem toList_beq (a b : ByteArray) : (a.toList == b.toList) = eqb a b := by
  rw [Bool.eq_iff_iff, beq_iff_eq, toList_iff, eqb_iff]

theorem impl_SameReq_ev (m p : ByteArray) (l : List S102) (b : ByteArray) (m' p' : ByteArray) (l' : List S102) (b' : ByteArray) (hl : l.length ≤ 9223372036854775806) : Ev (fun k => impl_SameReq.f k m p l b m' p' l' b') (decb (sameReqV m p l b m' p' l' b')) := by
  unfold impl_SameReq.f
  refine ev_ite (fun q => ?_) (fun q => ?_)
  · rw [toList_iff] at q
    refine ev_ite (fun q0 => ?_) (fun q0 => ?_)
    · rw [toList_iff] at q0
      refine Ev.bind (impl_sameHeads_ev l l' hl) (ev_iteB (fun q1 => ?_) (fun q1 => ?_))
      · rw [eqb_iff] at q1
        rw [toList_beq, show eqb b b' = decb (sameReqV m p l b m' p' l' b') from eqb_congr2 ⟨fun h => ⟨q, q0, q1, h⟩, fun h => h.2.2.2⟩]; exact Ev.now _
      · have : ¬ l = l' := fun h => by rw [(eqb_iff l l').mpr h] at q1; cases q1
        rw [decb_false (fun h => this h.2.2.1)]; exact Ev.now _
    · rw [toList_iff] at q0; rw [decb_false (fun h => q0 h.2.1)]; exact Ev.now _
  · rw [toList_iff] at q; rw [decb_false (fun h => q h.1)]; exact Ev.now _
theorem spec_SameReq_ev (m p : ByteArray) (l : List S102) (b : ByteArray) (m' p' : ByteArray) (l' : List S102) (b' : ByteArray) (hl : l.length ≤ 9223372036854775806) : Ev (fun k => spec_SameReq.f k m p l b m' p' l' b') (decb (sameReqV m p l b m' p' l' b')) := by
  unfold spec_SameReq.f
  refine ev_ite (fun q => ?_) (fun q => ?_)
  · rw [toList_iff] at q
    refine ev_ite (fun q0 => ?_) (fun q0 => ?_)
    · rw [toList_iff] at q0
      refine Ev.bind (spec_l3SameHeads_ev l l' hl) (ev_iteB (fun q1 => ?_) (fun q1 => ?_))
      · rw [eqb_iff] at q1
        rw [toList_beq, show eqb b b' = decb (sameReqV m p l b m' p' l' b') from eqb_congr2 ⟨fun h => ⟨q, q0, q1, h⟩, fun h => h.2.2.2⟩]; exact Ev.now _
      · have : ¬ l = l' := fun h => by rw [(eqb_iff l l').mpr h] at q1; cases q1
        rw [decb_false (fun h => this h.2.2.1)]; exact Ev.now _
    · rw [toList_iff] at q0; rw [decb_false (fun h => q0 h.2.1)]; exact Ev.now _
  · rw [toList_iff] at q; rw [decb_false (fun h => q h.1)]; exact Ev.now _

def HdP (l : List S102) : Prop := l.length ≤ 20 ∧ ∀ x ∈ l, x.f0.size ≤ 100 ∧ x.f1.size ≤ 100
def RqP (m p : ByteArray) (l : List S102) (b : ByteArray) : Prop := m.size ≤ 100 ∧ p.size ≤ 100 ∧ HdP l ∧ b.size ≤ 1000
theorem HdP_snoc {l : List S102} {x : S102} {n : Nat} (h : HdP l) (hn : l.length ≤ n) (hn9 : n < 20) (h0 : x.f0.size ≤ 100) (h1 : x.f1.size ≤ 100) : HdP (l ++ [x]) ∧ (l ++ [x]).length ≤ n + 1 := by
  refine ⟨⟨by rw [List.length_append]; simp; omega, fun y hy => ?_⟩, by rw [List.length_append]; simp; omega⟩
  rcases List.mem_append.1 hy with hy | hy
  · exact h.2 y hy
  · simp only [List.mem_cons, List.not_mem_nil, or_false] at hy
    subst hy; exact ⟨h0, h1⟩
theorem l3DrawHeads_l0 : ∀ (n : Nat) (x : List S102) (b : List Int) (i h : Int), n ≤ 5 → HdP x → x.length ≤ 9 - n → b.length ≤ 1048576 → 0 ≤ i → i ≤ b.length → ∃ l i' h', Ev (fun k => spec_l3DrawHeads.l0 k x (n : Int) b i h) (l, i', h') ∧ HdP l ∧ l.length ≤ 9 ∧ 0 ≤ i' ∧ i' ≤ b.length
  | 0, x, b, i, h, hn, hx, hl, hb, h0, h1 => by
    refine ⟨x, i, h, ?_, hx, by omega, h0, h1⟩
    apply ev_succ
    simp only [spec_l3DrawHeads.l0, if_neg (show ¬ ((0 : Nat) : Int) > 0 by omega)]
    exact Ev.now _
  | n + 1, x, b, i, h, hn, hx, hl, hb, h0, h1 => by
    obtain ⟨y, i1, e1, f1, p1, a1, b1⟩ := l1Str_dr [(⟨#[105, 102]⟩ : ByteArray), (⟨#[100, 101, 112, 116, 104]⟩ : ByteArray), (⟨#[120, 45, 97]⟩ : ByteArray), (⟨#[104, 111, 115, 116]⟩ : ByteArray), (⟨#[105, 102, 45, 109, 97, 116, 99, 104]⟩ : ByteArray)] (by decide) b i h hb h0 h1
    have f1' : spec_l1Str.f b i h _ = some (y, i1, e1) := f1
    have hy : y.size ≤ 9 := (by decide : ∀ x ∈ _, x.size ≤ 9) y p1
    obtain ⟨z, i2, e2, f2, p2, a2, b2⟩ := l1Str_dr [(⟨#[]⟩ : ByteArray), (⟨#[48]⟩ : ByteArray), (⟨#[105, 110, 102, 105, 110, 105, 116, 121]⟩ : ByteArray), (⟨#[97, 32, 98]⟩ : ByteArray), (⟨#[34, 118, 49, 34]⟩ : ByteArray), (⟨#[40, 60, 49, 62, 41]⟩ : ByteArray)] (by decide) b i1 e1 hb a1 b1
    have f2' : spec_l1Str.f b i1 e1 _ = some (z, i2, e2) := f2
    have hz : z.size ≤ 9 := (by decide : ∀ x ∈ _, x.size ≤ 9) z p2
    obtain ⟨hx2, hl2⟩ := HdP_snoc (x := ⟨y, z⟩) hx hl (by omega) (by show y.size ≤ 100; omega) (by show z.size ≤ 100; omega)
    obtain ⟨l, i3, e3, f3, p3, q3, a3, b3⟩ := l3DrawHeads_l0 n (x ++ [⟨y, z⟩]) b i2 e2 (by omega) hx2 (by omega) hb a2 b2
    refine ⟨l, i3, e3, ?_, p3, q3, a3, b3⟩
    apply ev_succ
    have hw : wrap64 (((n + 1 : Nat) : Int) - 1) = (n : Int) := by rw [wrap_id (by omega) (by omega)]; omega
    simp only [spec_l3DrawHeads.l0, if_pos (show ((n + 1 : Nat) : Int) > 0 by omega), f1', f2', Option.bind_some, if_pos (show x.length < 4398046511104 by omega), hw]
    exact f3
theorem l3DrawHeads_dr (b : List Int) (i h : Int) (hb : b.length ≤ 1048576) (h0 : 0 ≤ i) (h1 : i ≤ b.length) : ∃ l i' h', Ev (fun k => spec_l3DrawHeads.f k b i h) (l, i', h') ∧ HdP l ∧ l.length ≤ 9 ∧ 0 ≤ i' ∧ i' ≤ b.length := by
  obtain ⟨x, i1, e1, f1, p1, a1, b1⟩ := l1Below_dr 3 b i h hb h0 h1
  have f1' : spec_l1Below.f b i h 3 = some (x, i1, e1) := f1
  have hx := p1.2 (by omega)
  have hx0 := p1.1
  obtain ⟨n, rfl⟩ : ∃ n : Nat, x = (n : Int) := ⟨x.toNat, by omega⟩
  obtain ⟨l, i2, e2, f2, p2⟩ := l3DrawHeads_l0 n [] b i1 e1 (by omega) ⟨by simp, by simp⟩ (by simp) hb a1 b1
  refine ⟨l, i2, e2, ?_, p2⟩
  unfold spec_l3DrawHeads.f
  simp only [f1', Option.bind_some]
  exact f2
theorem l3Draw_dr (b : List Int) (i h : Int) (hb : b.length ≤ 1048576) (h0 : 0 ≤ i) (h1 : i ≤ b.length) : ∃ m p l y i' h', Ev (fun k => spec_l3Draw.f k b i h) (m, p, l, y, i', h') ∧ RqP m p l y ∧ l.length ≤ 9 ∧ 0 ≤ i' ∧ i' ≤ b.length := by
  obtain ⟨m, i1, e1, f1, p1, a1, b1⟩ := l1Str_dr [(⟨#[71, 69, 84]⟩ : ByteArray), (⟨#[80, 85, 84]⟩ : ByteArray), (⟨#[77, 75, 67, 79, 76]⟩ : ByteArray), (⟨#[68, 69, 76, 69, 84, 69]⟩ : ByteArray), (⟨#[67, 79, 80, 89]⟩ : ByteArray)] (by decide) b i h hb h0 h1
  have f1' : spec_l1Str.f b i h _ = some (m, i1, e1) := f1
  have hm : m.size ≤ 9 := (by decide : ∀ x ∈ _, x.size ≤ 9) m p1
  obtain ⟨p, i2, e2, f2, p2, a2, b2⟩ := l1Str_dr [(⟨#[47]⟩ : ByteArray), (⟨#[47, 97]⟩ : ByteArray), (⟨#[47, 97, 47, 98]⟩ : ByteArray), (⟨#[47, 97, 37, 50, 48, 98]⟩ : ByteArray), (⟨#[120]⟩ : ByteArray)] (by decide) b i1 e1 hb a1 b1
  have f2' : spec_l1Str.f b i1 e1 _ = some (p, i2, e2) := f2
  have hp : p.size ≤ 9 := (by decide : ∀ x ∈ _, x.size ≤ 9) p p2
  obtain ⟨l, i3, e3, f3, p3, q3, a3, b3⟩ := l3DrawHeads_dr b i2 e2 hb a2 b2
  obtain ⟨y, i4, e4, f4, p4, a4, b4⟩ := l1Str_dr [(⟨#[]⟩ : ByteArray), (⟨#[]⟩ : ByteArray), (⟨#[97]⟩ : ByteArray), (⟨#[104, 101, 108, 108, 111]⟩ : ByteArray), (⟨#[60, 97, 47, 62]⟩ : ByteArray), (⟨#[13, 10, 13, 10]⟩ : ByteArray), (⟨#[120, 0, 255]⟩ : ByteArray)] (by decide) b i3 e3 hb a3 b3
  have f4' : spec_l1Str.f b i3 e3 _ = some (y, i4, e4) := f4
  have hy : y.size ≤ 9 := (by decide : ∀ x ∈ _, x.size ≤ 9) y p4
  have f4b : spec_l3Body.f b i3 e3 = some (y, i4, e4) := by unfold spec_l3Body.f; rw [f4']; rfl
  refine ⟨m, p, l, y, i4, e4, ?_, ⟨by omega, by omega, p3, by omega⟩, q3, a4, b4⟩
  unfold spec_l3Draw.f
  simp only [f1', f2', Option.bind_some]
  refine Ev.bind f3 ?_
  simp only [f4b, Option.bind_some]
  exact Ev.now _
theorem l3Any_l0 : ∀ (n : Nat) (m p : ByteArray) (l : List S102) (y : ByteArray) (b : List Int) (i h : Int), 9 - l.length = n → l.length ≤ 9 → RqP m p l y → b.length ≤ 1048576 → 0 ≤ i → i ≤ b.length → ∃ l' i' h', Ev (fun k => spec_l3Any.l0 k b i h m p l y) (m, p, l', y, i', h') ∧ RqP m p l' y ∧ 0 ≤ i' ∧ i' ≤ b.length
  | n, m, p, l, y, b, i, h, hn, hl, hP, hb, h0, h1 => by
    obtain ⟨v, i1, e1, f1, p1, a1, b1⟩ := l1Below_dr 2 b i h hb h0 h1
    have f1' : spec_l1Below.f b i h 2 = some (v, i1, e1) := f1
    have hv := p1.2 (by omega)
    have hv0 := p1.1
    have hw : wrap64 (8 + v) = 8 + v := wrap_id (by omega) (by omega)
    by_cases q : (l.length : Int) < 8 + v
    · obtain ⟨t, i2, e2, f2, p2, a2, b2⟩ := l1Int_dr [0, 9, 60] (by decide) b i1 e1 hb a1 b1
      have f2' : spec_l1Int.f b i1 e1 _ = some (t, i2, e2) := f2
      have ht : 0 ≤ t ∧ t ≤ 60 := by simp only [List.mem_cons, List.not_mem_nil, or_false] at p2; omega
      match n, hn with
      | 0, hn => omega
      | n + 1, hn =>
      obtain ⟨hP2, hl2⟩ := HdP_snoc (x := ⟨(⟨#[120]⟩ : ByteArray), (⟨#[115, 105, 120, 116, 121, 45, 98, 121, 116, 101, 115, 45, 111, 102, 45, 97, 45, 118, 97, 108, 117, 101, 45, 116, 104, 97, 116, 45, 105, 115, 45, 97, 115, 45, 108, 111, 110, 103, 45, 97, 115, 45, 97, 45, 118, 97, 108, 117, 101, 45, 109, 97, 121, 45, 98, 101, 45, 110, 111, 119]⟩ : ByteArray).extract 0 (t : Int).toNat⟩) hP.2.2.1 (Nat.le_refl l.length) (by omega) (by show (⟨#[120]⟩ : ByteArray).size ≤ 100; decide) (by
        show ((⟨#[115, 105, 120, 116, 121, 45, 98, 121, 116, 101, 115, 45, 111, 102, 45, 97, 45, 118, 97, 108, 117, 101, 45, 116, 104, 97, 116, 45, 105, 115, 45, 97, 115, 45, 108, 111, 110, 103, 45, 97, 115, 45, 97, 45, 118, 97, 108, 117, 101, 45, 109, 97, 121, 45, 98, 101, 45, 110, 111, 119]⟩ : ByteArray).extract 0 t.toNat).size ≤ 100
        rw [ByteArray.size_extract]; omega)
      obtain ⟨l', i3, e3, f3, p3⟩ := l3Any_l0 n m p _ y b i2 e2 (by rw [List.length_append]; simp; omega) (by omega) ⟨hP.1, hP.2.1, hP2, hP.2.2.2⟩ hb a2 b2
      refine ⟨l', i3, e3, ?_, p3⟩
      apply ev_succ
      simp only [spec_l3Any.l0, f1', Option.bind_some, hw, if_pos q, f2', if_pos ht.1, if_pos ht.2, if_pos (show l.length < 4398046511104 by omega)]
      exact f3
    · refine ⟨l, i1, e1, ?_, hP, a1, b1⟩
      apply ev_succ
      simp only [spec_l3Any.l0, f1', Option.bind_some, hw, if_neg q]
      exact Ev.now _
theorem l3Any_dr (b : List Int) (i h : Int) (hb : b.length ≤ 1048576) (h0 : 0 ≤ i) (h1 : i ≤ b.length) : ∃ m p l y i' h', Ev (fun k => spec_l3Any.f k b i h) (m, p, l, y, i', h') ∧ RqP m p l y ∧ 0 ≤ i' ∧ i' ≤ b.length := by
  obtain ⟨m, p, l, y, i1, e1, f1, p1, q1, a1, b1⟩ := l3Draw_dr b i h hb h0 h1
  obtain ⟨v, i2, e2, f2, p2, a2, b2⟩ := l1Below_dr 12 b i1 e1 hb a1 b1
  have f2' : spec_l1Below.f b i1 e1 12 = some (v, i2, e2) := f2
  obtain ⟨pm, pp, pl, py⟩ := p1
  unfold spec_l3Any.f
  by_cases c0 : v = 0
  · obtain ⟨z, i3, e3, f3, p3, a3, b3⟩ := l1Str_dr [(⟨#[]⟩ : ByteArray), (⟨#[103, 101, 116]⟩ : ByteArray), (⟨#[84, 69, 78, 76, 69, 84, 84, 69, 82, 83]⟩ : ByteArray), (⟨#[65, 32, 66]⟩ : ByteArray)] (by decide) b i2 e2 hb a2 b2
    have f3' : spec_l1Str.f b i2 e2 _ = some (z, i3, e3) := f3
    have hz : z.size ≤ 19 := (by decide : ∀ x ∈ _, x.size ≤ 19) z p3
    refine ⟨z, p, l, y, i3, e3, Ev.bind f1 ?_, ⟨by omega, pp, pl, py⟩, a3, b3⟩
    simp only [f2', Option.bind_some, if_pos c0, f3']; exact Ev.now _
  by_cases c1 : v = 1
  · obtain ⟨z, i3, e3, f3, p3, a3, b3⟩ := l1Str_dr [(⟨#[]⟩ : ByteArray), (⟨#[97, 32, 98]⟩ : ByteArray), (⟨#[127]⟩ : ByteArray)] (by decide) b i2 e2 hb a2 b2
    have f3' : spec_l1Str.f b i2 e2 _ = some (z, i3, e3) := f3
    have hz : z.size ≤ 19 := (by decide : ∀ x ∈ _, x.size ≤ 19) z p3
    refine ⟨m, z, l, y, i3, e3, Ev.bind f1 ?_, ⟨pm, by omega, pl, py⟩, a3, b3⟩
    simp only [f2', Option.bind_some, if_neg c0, if_pos c1, f3']; exact Ev.now _
  by_cases c2 : v = 2
  · obtain ⟨z, i3, e3, f3, p3, a3, b3⟩ := l1Str_dr [(⟨#[99, 111, 110, 116, 101, 110, 116, 45, 108, 101, 110, 103, 116, 104]⟩ : ByteArray), (⟨#[88]⟩ : ByteArray), (⟨#[]⟩ : ByteArray), (⟨#[97]⟩ : ByteArray)] (by decide) b i2 e2 hb a2 b2
    have f3' : spec_l1Str.f b i2 e2 _ = some (z, i3, e3) := f3
    have hz : z.size ≤ 19 := (by decide : ∀ x ∈ _, x.size ≤ 19) z p3
    obtain ⟨u, i4, e4, f4, p4, a4, b4⟩ := l1Str_dr [(⟨#[32, 97]⟩ : ByteArray), (⟨#[97]⟩ : ByteArray), (⟨#[13, 10]⟩ : ByteArray)] (by decide) b i3 e3 hb a3 b3
    have f4' : spec_l1Str.f b i3 e3 _ = some (u, i4, e4) := f4
    have hu : u.size ≤ 19 := (by decide : ∀ x ∈ _, x.size ≤ 19) u p4
    obtain ⟨hP2, _⟩ := HdP_snoc (x := ⟨z, u⟩) pl q1 (by omega) (by show z.size ≤ 100; omega) (by show u.size ≤ 100; omega)
    refine ⟨m, p, l ++ [⟨z, u⟩], y, i4, e4, Ev.bind f1 ?_, ⟨pm, pp, hP2, py⟩, a4, b4⟩
    simp only [f2', Option.bind_some, if_neg c0, if_neg c1, if_pos c2, f3', f4', if_pos (show l.length < 4398046511104 by omega)]; exact Ev.now _
  by_cases c3 : v = 3
  · obtain ⟨z, i3, e3, f3, p3, a3, b3⟩ := l1Below_dr 2 b i2 e2 hb a2 b2
    have f3' : spec_l1Below.f b i2 e2 2 = some (z, i3, e3) := f3
    have hz := p3.2 (by omega)
    have hz0 := p3.1
    have hw : wrap64 (200 + z) = 200 + z := wrap_id (by omega) (by omega)
    refine ⟨m, p, l, strOfNums (List.replicate (200 + z : Int).toNat 0), i3, e3, Ev.bind f1 ?_, ⟨pm, pp, pl, ?_⟩, a3, b3⟩
    · simp only [f2', Option.bind_some, if_neg c0, if_neg c1, if_neg c2, if_pos c3, f3', hw, if_pos (show (0 : Int) ≤ 200 + z by omega), if_pos (show (200 + z : Int).toNat ≤ 281474976710656 by omega)]; exact Ev.now _
    · rw [size_len, bytesOf_strOfNums _ (fun x hx => by rw [List.eq_of_mem_replicate hx]; omega), List.length_replicate]; omega
  by_cases c4 : v = 4
  · obtain ⟨l', i3, e3, f3, p3, a3, b3⟩ := l3Any_l0 (9 - l.length) m p l y b i2 e2 rfl q1 ⟨pm, pp, pl, py⟩ hb a2 b2
    refine ⟨m, p, l', y, i3, e3, Ev.bind f1 ?_, p3, a3, b3⟩
    simp only [f2', Option.bind_some, if_neg c0, if_neg c1, if_neg c2, if_neg c3, if_pos c4]; exact f3
  · refine ⟨m, p, l, y, i2, e2, Ev.bind f1 ?_, ⟨pm, pp, pl, py⟩, a2, b2⟩
    simp only [f2', Option.bind_some, if_neg c0, if_neg c1, if_neg c2, if_neg c3, if_neg c4]; exact Ev.now _
theorem FnReqsBent : laws_FnReqsBent.Pure := by
  intro l _ _
  apply Ev.rounds
  unfold laws_FnReqsBent.f laws_big.f
  simp only [Option.bind_some]
  refine ev_iteB (fun _ => Ev.now _) (fun q => ?_)
  have hl : l.length ≤ 1048576 := by
    have := of_decide_eq_false q
    omega
  obtain ⟨h, hn⟩ := l1New_ev l hl
  obtain ⟨m, p, d, y, i1, e1, f1, p1, a1, b1⟩ := l3Any_dr l 0 h hl (by omega) (by omega)
  have er : Ev (fun k => spec_DrawReqOk.f k l) (m, p, d, y) := by
    unfold spec_DrawReqOk.f; exact Ev.bind hn (Ev.bind f1 (Ev.now _))
  obtain ⟨o, i2, e2, f2, _, a2, b2⟩ := l1Once_dr 2 l i1 e1 hl a1 b1
  have f2' : spec_l1Once.f l i1 e1 2 = some (o, i2, e2) := f2
  have es : ∃ m' p' d' y', Ev (fun k => spec_DrawSameReq.f k l) (m, p, d, y, m', p', d', y') := by
    cases o with
    | true =>
      refine ⟨m, p, d, y, ?_⟩
      unfold spec_DrawSameReq.f
      refine Ev.bind hn (Ev.bind f1 ?_)
      have hd := p1.2.2.1.1
      simp only [f2', Option.bind_some, if_true, List.length_nil, List.nil_append, if_pos (show 0 + d.length < 4398046511104 by omega)]
      exact Ev.now _
    | false =>
      obtain ⟨m', p', d', y', i3, e3, f3, p3, a3, b3⟩ := l3Any_dr l i2 e2 hl a2 b2
      refine ⟨m', p', d', y', ?_⟩
      unfold spec_DrawSameReq.f
      refine Ev.bind hn (Ev.bind f1 ?_)
      simp only [f2', Option.bind_some, Bool.false_eq_true, if_false]
      exact Ev.bind f3 (Ev.now _)
  obtain ⟨m', p', d', y', es⟩ := es
  obtain ⟨g, i4, e4, f4, p4, q4, a4, b4⟩ := l3DrawHeads_dr l 0 h hl (by omega) (by omega)
  obtain ⟨n, i5, e5, f5, p5, a5, b5⟩ := l1Str_dr [(⟨#[105, 102]⟩ : ByteArray), (⟨#[100, 101, 112, 116, 104]⟩ : ByteArray), (⟨#[120, 45, 97]⟩ : ByteArray), (⟨#[104, 111, 115, 116]⟩ : ByteArray)] (by decide) l i4 e4 hl a4 b4
  have f5' : spec_l1Str.f l i4 e4 _ = some (n, i5, e5) := f5
  have eh : Ev (fun k => spec_DrawHeadOf.f k l) (g, n) := by
    unfold spec_DrawHeadOf.f
    refine Ev.bind hn (Ev.bind f4 ?_)
    simp only [f5', Option.bind_some]; exact Ev.now _
  have hd := p1.2.2.1
  have hs : ∀ x ∈ d, x.f0.size ≤ 1048576 ∧ x.f1.size ≤ 1048576 := fun x hx => by have := hd.2 x hx; omega
  have hm := p1.1
  have hp := p1.2.1
  have hdl := hd.1
  have hgl := p4.1
  refine Ev.bind er (Ev.bind es (Ev.bind eh (Ev.bind (impl_HeadOf_ev g n (by omega)) (Ev.bind (spec_HeadOf_ev g n (by omega)) ?_))))
  refine Ev.bind (impl_ReqOk_ev m p d y (by omega) (by omega) (by omega) hs) (Ev.bind (spec_ReqOk_ev m p d y (by omega) (by omega) (by omega) hs) ?_)
  simp only [beq_self_eq_true, if_true]
  refine Ev.bind (impl_SameReq_ev m p d y m' p' d' y' (by omega)) (Ev.bind (spec_SameReq_ev m p d y m' p' d' y' (by omega)) ?_)
  simp only [beq_self_eq_true, if_true]
  have hself := impl_SameReq_ev m p d y m p d y (by omega)
  rw [decb_true ⟨rfl, rfl, rfl, rfl⟩] at hself
  refine Ev.bind hself ?_
  simp only [if_true]
  exact Ev.now _

end Go.Proofs.YtgfpiijpgpkoiabDoor.Pure
