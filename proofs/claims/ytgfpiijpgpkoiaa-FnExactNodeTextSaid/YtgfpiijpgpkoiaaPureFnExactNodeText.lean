/- The program's NodeText answers as the reference's does, for every tree; no condition. -/
import Derived.Test.YtgfpiijpgpkoiaaGFnExactNodeTextx7
import Derived.Test.YtgfpiijpgpkoiaaBase
namespace Go.Proofs.Ytgfpiijpgpkoiaa.Pure
open Go.RowKit Go.Proofs.Ytgfpiijpgpkoiaa.GFnExactNodeText Go.Proofs.Ytgfpiijpgpkoiaa.Base Go.Proofs.YtgfpiijpgpkoiaaW.PrintWords Go.Proofs.YtgfpiijpgpkoiaaW.PrintLast
set_option linter.unusedVariables false
set_option linter.unusedSimpArgs false

/-! what holds of all great numbers of rounds, of two kinds at once: the outer's (K) and the inner's (j) -/
def Ev2 {α : Type} (g : Nat → Nat → Option α) (r : α) : Prop := ∃ M, ∀ K j, M ≤ K → M ≤ j → g K j = some r
theorem Ev2.now {α : Type} (r : α) : Ev2 (fun _ _ => some r) r := ⟨0, fun _ _ _ _ => rfl⟩
theorem Ev2.succ {α : Type} {g : Nat → Nat → Option α} {r : α} (h : Ev2 (fun K j => g K (j + 1)) r) : Ev2 g r := by
  obtain ⟨M, h⟩ := h
  refine ⟨M + 1, fun K j hK hj => ?_⟩
  obtain ⟨j, rfl⟩ : ∃ m, j = m + 1 := ⟨j - 1, by omega⟩
  exact h K j (by omega) (by omega)
theorem Ev2.bind {α β : Type} {f : Nat → Option β} {x : β} {h : Nat → Nat → β → Option α} {r : α} (hf : Ev f x) (hh : Ev2 (fun K j => h K j x) r) : Ev2 (fun K j => (f K).bind (h K j)) r := by
  obtain ⟨M, hf⟩ := hf
  obtain ⟨N, hh⟩ := hh
  refine ⟨M + N, fun K j hK hj => ?_⟩
  show (f K).bind (h K j) = some r
  rw [hf K (by omega)]
  exact hh K j (by omega) (by omega)
theorem Ev2.diag {α : Type} {g : Nat → Nat → Option α} {r : α} (h : Ev2 g r) : Ev (fun k => g k k) r := by
  obtain ⟨M, h⟩ := h
  exact ⟨M, fun k hk => h k k hk hk⟩
theorem ev2_ite {α : Type} {c : Prop} [Decidable c] {a b : Nat → Nat → Option α} {r : α} (h : c → Ev2 a r) (k : ¬ c → Ev2 b r) : Ev2 (fun K j => if c then a K j else b K j) r := by
  by_cases hc : c
  · simpa only [if_pos hc] using h hc
  · simpa only [if_neg hc] using k hc
theorem fill_ind {β γ : Type} (l : List β) (f : β → γ) (z : γ) (E : Nat → List γ → Prop) (hn : E l.length (l.map f))
    (hs : ∀ i x c, i < l.length → x.length = l.length → (∀ d, l.getD (i : Int).toNat d = c) → l[i]? = some c → E (i + 1) (x.set (i : Int).toNat (f c)) → E i x) : E 0 (List.replicate l.length z) := by
  have key : ∀ n i, l.length - i ≤ n → i ≤ l.length → E i ((l.map f).take i ++ List.replicate (l.length - i) z) := by
    intro n
    induction n with
    | zero =>
      intro i hi hle
      have h0 : i = l.length := by omega
      subst h0
      simpa [List.take_of_length_le] using hn
    | succ n ih =>
      intro i hi hle
      rcases Nat.lt_or_ge i l.length with hlt | hge
      · refine hs i _ l[i] hlt (by simp; omega) (fun d => by rw [Int.toNat_natCast, List.getD_eq_getElem?_getD, List.getElem?_eq_getElem hlt]; rfl) (List.getElem?_eq_getElem hlt) ?_
        have e : ((l.map f).take i ++ List.replicate (l.length - i) z).set (i : Int).toNat (f l[i]) = (l.map f).take (i + 1) ++ List.replicate (l.length - (i + 1)) z := by
          rw [Int.toNat_natCast, List.set_append_right _ _ (by simp; omega)]
          have h1 : i - ((l.map f).take i).length = 0 := by simp; omega
          have h2 : l.length - i = (l.length - (i + 1)) + 1 := by omega
          rw [h1, h2, List.replicate_succ, List.set_cons_zero, List.take_succ_eq_append_getElem (by simpa using hlt)]
          simp
        rw [e]; exact ih (i + 1) (by omega) hlt
      · have h0 : i = l.length := by omega
        subst h0
        simpa [List.take_of_length_le] using hn
  have := key _ 0 (Nat.le_refl _) (Nat.zero_le _)
  simpa using this

/-! trees: their weights, their copies -/
mutual
def wtN : S35 → Nat
  | ⟨a, b, c, l⟩ => a.size + b.size + c.size + l.length + wtL l
def wtL : List S35 → Nat
  | [] => 0
  | x :: r => wtN x + wtL r
end
mutual
def toN : S35 → S40
  | ⟨a, b, c, l⟩ => ⟨a, b, c, toL l⟩
def toL : List S35 → List S40
  | [] => []
  | x :: r => toN x :: toL r
end
mutual
def lenN : S40 → Nat
  | ⟨_, _, _, l⟩ => l.length + lenL l
def lenL : List S40 → Nat
  | [] => 0
  | x :: r => lenN x + lenL r
end
theorem node_ind {P : S35 → Prop} (h : ∀ a b c l, (∀ x ∈ l, P x) → P ⟨a, b, c, l⟩) : ∀ x, P x := by
  have key : ∀ n (x : S35), SizeOf.sizeOf x ≤ n → P x := by
    intro n
    induction n with
    | zero => intro x hx; cases x; simp at hx
    | succ n ih =>
      rintro ⟨a, b, c, l⟩ hx
      refine h a b c l (fun y hy => ih y ?_)
      have := List.sizeOf_lt_of_mem hy
      simp at hx
      omega
  exact fun x => key _ x (Nat.le_refl _)
theorem nodeI_ind {P : S40 → Prop} (h : ∀ a b c l, (∀ x ∈ l, P x) → P ⟨a, b, c, l⟩) : ∀ x, P x := by
  have key : ∀ n (x : S40), SizeOf.sizeOf x ≤ n → P x := by
    intro n
    induction n with
    | zero => intro x hx; cases x; simp at hx
    | succ n ih =>
      rintro ⟨a, b, c, l⟩ hx
      refine h a b c l (fun y hy => ih y ?_)
      have := List.sizeOf_lt_of_mem hy
      simp at hx
      omega
  exact fun x => key _ x (Nat.le_refl _)
theorem toL_map : ∀ l, toL l = l.map toN
  | [] => rfl
  | x :: r => by rw [toL, toL_map r]; rfl
theorem wtL_mem : ∀ {l : List S35} {x}, x ∈ l → wtN x ≤ wtL l
  | y :: r, x, h => by
    rw [wtL]
    rcases List.mem_cons.1 h with rfl | h
    · omega
    · have := wtL_mem h; omega
theorem lenL_mem : ∀ {l : List S40} {x}, x ∈ l → lenN x ≤ lenL l
  | y :: r, x, h => by
    rw [lenL]
    rcases List.mem_cons.1 h with rfl | h
    · omega
    · have := lenL_mem h; omega
theorem lenL_to : ∀ l : List S35, (∀ x ∈ l, lenN (toN x) ≤ wtN x) → lenL (toL l) ≤ wtL l
  | [], _ => Nat.le_refl _
  | x :: r, h => by
    rw [toL, lenL, wtL]
    have h1 := h x (by simp)
    have h2 := lenL_to r (fun y hy => h y (by simp [hy]))
    omega
theorem lenN_to : ∀ x, lenN (toN x) ≤ wtN x := by
  apply node_ind
  intro a b c l ih
  rw [toN, lenN, wtN]
  have h1 := lenL_to l ih
  have h2 : (toL l).length = l.length := by rw [toL_map, List.length_map]
  omega
/-- what is left of a measure; -1: nothing -/
def szV (left : Int) (n : Nat) : Int := if (n : Int) ≤ left then left - n else -1
theorem szV_ok {left : Int} {n : Nat} (h : ¬ szV left n < 0) : (n : Int) ≤ left ∧ szV left n = left - n := by
  unfold szV at h ⊢
  by_cases q : (n : Int) ≤ left
  · rw [if_pos q]; exact ⟨q, rfl⟩
  · rw [if_neg q] at h; omega
theorem szNs_ev (L : List S35) (hL : L.length ≤ 1048576)
    (hA : ∀ x ∈ L, ∀ left : Int, 0 ≤ left → left ≤ 1048576 → Ev (fun k => laws_szNode.f k x.f0 x.f1 x.f2 x.f3 left) (szV left (wtN x))) :
    ∀ (l : List S35) (i : Nat) (left : Int), L.drop i = l → 0 ≤ left → left ≤ 1048576 → Ev2 (fun K j => laws_szNodeS.l0 (fun _ => laws_szNode.f K) j L left (i : Int)) (szV left (wtL l))
  | [], i, left, h, h0, h1 => by
    have := List.drop_eq_nil_iff.1 h
    apply Ev2.succ
    simp only [laws_szNodeS.l0, if_neg (show ¬ (i : Int) < (L.length : Int) by omega), wtL]
    rw [show szV left 0 = left from by unfold szV; rw [if_pos (by omega)]; omega]
    exact Ev2.now left
  | x :: r, i, left, h, h0, h1 => by
    obtain ⟨hb, hi, hd, hg⟩ := l_drop h
    have hrd : rd_T35 L (i : Int) = x := hb _
    apply Ev2.succ
    simp only [laws_szNodeS.l0, if_pos (show (i : Int) < (L.length : Int) by omega), if_pos (show (0 : Int) ≤ (i : Int) by omega), hrd, wrap_id (x := (i : Int) + 1) (by omega) (by omega)]
    refine Ev2.bind (hA x (List.mem_of_getElem? hg) left h0 h1) (ev2_ite (fun q => ?_) (fun q => ?_))
    · have : szV left (wtL (x :: r)) = -1 := by
        unfold szV at q ⊢
        rw [wtL]
        by_cases q2 : ((wtN x : Nat) : Int) ≤ left
        · rw [if_pos q2] at q; omega
        · rw [if_neg (by omega)]
      rw [this]; exact Ev2.now _
    · obtain ⟨hle, he⟩ := szV_ok q
      have ih := szNs_ev L hL hA r (i + 1) (left - wtN x) hd (by omega) (by omega)
      rw [he]
      have e : szV (left - wtN x) (wtL r) = szV left (wtL (x :: r)) := by
        unfold szV
        rw [wtL]
        by_cases q2 : ((wtL r : Nat) : Int) ≤ left - wtN x
        · rw [if_pos q2, if_pos (by omega)]; omega
        · rw [if_neg q2, if_neg (by omega)]
      rw [← e]
      exact ih
theorem szN_ev : ∀ x : S35, (∀ n, B35 n x) → ∀ left : Int, 0 ≤ left → left ≤ 1048576 → Ev (fun k => laws_szNode.f k x.f0 x.f1 x.f2 x.f3 left) (szV left (wtN x)) := by
  apply node_ind
  intro a b c l ih hB left h0 h1
  have ha : a.size ≤ 9223372036854775807 := (hB 1).1
  have hb : b.size ≤ 9223372036854775807 := (hB 1).2.1
  have hc : c.size ≤ 9223372036854775807 := (hB 1).2.2.1
  have hl : l.length ≤ 9223372036854775807 := (hB 1).2.2.2.1
  have hk : ∀ x ∈ l, ∀ n, B35 n x := fun x hx n => (hB (n + 1)).2.2.2.2 x hx
  have e0 : ∀ n : Nat, ¬ ((n : Int) ≤ left) → szV left n = -1 := fun n h => by unfold szV; rw [if_neg h]
  apply ev_succ
  simp only [laws_szNode.f, wrap_id (x := left - (a.size : Int)) (by omega) (by omega)]
  refine ev_ite (fun q => ?_) (fun q => ?_)
  · rw [e0 _ (by rw [wtN]; omega)]; exact Ev.now _
  simp only [wrap_id (x := left - (a.size : Int) - (b.size : Int)) (by omega) (by omega)]
  refine ev_ite (fun q1 => ?_) (fun q1 => ?_)
  · rw [e0 _ (by rw [wtN]; omega)]; exact Ev.now _
  simp only [wrap_id (x := left - (a.size : Int) - (b.size : Int) - (c.size : Int)) (by omega) (by omega)]
  refine ev_ite (fun q2 => ?_) (fun q2 => ?_)
  · rw [e0 _ (by rw [wtN]; omega)]; exact Ev.now _
  have hS : Ev (fun k => laws_szNodeS.f (fun _ => laws_szNode.f k) k l (left - (a.size : Int) - (b.size : Int) - (c.size : Int))) (szV (left - (a.size : Int) - (b.size : Int) - (c.size : Int)) (l.length + wtL l)) := by
    unfold laws_szNodeS.f
    simp only [wrap_id (x := left - (a.size : Int) - (b.size : Int) - (c.size : Int) - (l.length : Int)) (by omega) (by omega)]
    refine ev_ite (fun q3 => ?_) (fun q3 => ?_)
    · rw [show szV _ _ = -1 from by unfold szV; rw [if_neg (by omega)]]; exact Ev.now _
    · have := Ev2.diag (szNs_ev l (by omega) (fun x hx => ih x hx (hk x hx)) l 0 (left - (a.size : Int) - (b.size : Int) - (c.size : Int) - (l.length : Int)) rfl (by omega) (by omega))
      have e : szV (left - (a.size : Int) - (b.size : Int) - (c.size : Int) - (l.length : Int)) (wtL l) = szV (left - (a.size : Int) - (b.size : Int) - (c.size : Int)) (l.length + wtL l) := by
        unfold szV
        by_cases q4 : ((wtL l : Nat) : Int) ≤ left - (a.size : Int) - (b.size : Int) - (c.size : Int) - (l.length : Int)
        · rw [if_pos q4, if_pos (by omega)]; omega
        · rw [if_neg q4, if_neg (by omega)]
      rw [← e]; exact this
  refine Ev.bind hS ?_
  have e : szV left (wtN ⟨a, b, c, l⟩) = szV (left - (a.size : Int) - (b.size : Int) - (c.size : Int)) (l.length + wtL l) := by
    unfold szV
    rw [wtN]
    by_cases q4 : ((a.size + b.size + c.size + l.length + wtL l : Nat) : Int) ≤ left
    · rw [if_pos q4, if_pos (by omega)]; omega
    · rw [if_neg q4, if_neg (by omega)]
  rw [← e]
  refine ev_ite (fun q5 => ?_) (fun q5 => Ev.now _)
  have : szV left (wtN ⟨a, b, c, l⟩) = -1 := by
    unfold szV at q5 ⊢
    by_cases q6 : ((wtN ⟨a, b, c, l⟩ : Nat) : Int) ≤ left
    · rw [if_pos q6] at q5; omega
    · rw [if_neg q6]
  rw [this]; exact Ev.now _
def tup (x : S40) : ByteArray × ByteArray × ByteArray × List S40 := (x.f0, x.f1, x.f2, x.f3)
theorem toN_ev : ∀ x : S35, wtN x ≤ 1048576 → Ev (fun k => laws_toNode.f k x.f0 x.f1 x.f2 x.f3) (tup (toN x)) := by
  apply node_ind
  intro a b c l ih hw
  rw [wtN] at hw
  apply ev_succ
  simp only [laws_toNode.f]
  have hS : Ev (fun k => laws_toNodeS.f (fun _ => laws_toNode.f k) k l) (toL l) := by
    unfold laws_toNodeS.f
    simp only [if_pos (show (0 : Int) ≤ (l.length : Int) by omega), Int.toNat_natCast, if_pos (show l.length ≤ 3909374676536 by omega)]
    apply Ev2.diag (g := fun K j => laws_toNodeS.l0 (fun _ => laws_toNode.f K) j l 0 (List.replicate l.length z40))
    rw [toL_map]
    refine fill_ind l toN z40 (fun i x => Ev2 (fun K j => laws_toNodeS.l0 (fun _ => laws_toNode.f K) j l (i : Int) x) (l.map toN)) ?_ ?_
    · apply Ev2.succ
      simp only [laws_toNodeS.l0, if_neg (show ¬ ((l.length : Nat) : Int) < (l.length : Int) by omega)]
      exact Ev2.now _
    · intro i x y hi hx hb hg hE
      have hrd : rd_T35 l (i : Int) = y := hb _
      have hy := List.mem_of_getElem? hg
      have := wtL_mem hy
      apply Ev2.succ
      simp only [laws_toNodeS.l0, if_pos (show (i : Int) < (l.length : Int) by omega), if_pos (show (0 : Int) ≤ (i : Int) by omega), hrd, wrap_id (x := (i : Int) + 1) (by omega) (by omega), if_pos (show (i : Int) < (x.length : Int) by omega)]
      refine Ev2.bind (ih y hy (by omega)) ?_
      have e1 : (⟨(tup (toN y)).1, (tup (toN y)).2.1, (tup (toN y)).2.2.1, (tup (toN y)).2.2.2⟩ : S40) = toN y := by unfold tup; cases toN y; rfl
      rw [e1]
      exact hE
  exact Ev.bind hS (by rw [toN]; exact Ev.now _)
theorem eqNs_ev (L : List S40) (hL : L.length ≤ 1048576) (hA : ∀ x ∈ L, Ev (fun k => laws_eqNode.f k x.f0 x.f1 x.f2 x.f3 x.f0 x.f1 x.f2 x.f3) true) :
    ∀ (l : List S40) (i : Nat), L.drop i = l → Ev2 (fun K j => laws_eqNodeS.l0 (fun _ => laws_eqNode.f K) j L L (i : Int)) true
  | [], i, h => by
    have := List.drop_eq_nil_iff.1 h
    apply Ev2.succ
    simp only [laws_eqNodeS.l0, if_neg (show ¬ (i : Int) < (L.length : Int) by omega)]
    exact Ev2.now _
  | x :: r, i, h => by
    obtain ⟨hb, hi, hd, hg⟩ := l_drop h
    have hrd : rd_T40 L (i : Int) = x := hb _
    apply Ev2.succ
    simp only [laws_eqNodeS.l0, if_pos (show (i : Int) < (L.length : Int) by omega), if_pos (show (0 : Int) ≤ (i : Int) by omega), hrd, wrap_id (x := (i : Int) + 1) (by omega) (by omega)]
    refine Ev2.bind (hA x (List.mem_of_getElem? hg)) ?_
    simpa using eqNs_ev L hL hA r (i + 1) hd
theorem eqN_ev : ∀ x : S40, lenN x ≤ 1048576 → Ev (fun k => laws_eqNode.f k x.f0 x.f1 x.f2 x.f3 x.f0 x.f1 x.f2 x.f3) true := by
  apply nodeI_ind
  intro a b c l ih hw
  rw [lenN] at hw
  apply ev_succ
  simp only [laws_eqNode.f, if_true]
  have hS : Ev (fun k => laws_eqNodeS.f (fun _ => laws_eqNode.f k) k l l) true := by
    unfold laws_eqNodeS.f
    simp only [if_true]
    exact Ev2.diag (eqNs_ev l (by omega) (fun x hx => ih x hx (by have := lenL_mem hx; omega)) l 0 rfl)
  exact Ev.bind hS (by simpa using Ev.now true)

mutual
def wtI : S40 → Nat
  | ⟨a, b, c, l⟩ => a.size + b.size + c.size + l.length + wtIL l
def wtIL : List S40 → Nat
  | [] => 0
  | x :: r => wtI x + wtIL r
end
theorem wtIL_mem : ∀ {l : List S40} {x}, x ∈ l → wtI x ≤ wtIL l
  | y :: r, x, h => by
    rw [wtIL]
    rcases List.mem_cons.1 h with rfl | h
    · omega
    · have := wtIL_mem h; omega
theorem wtIL_to : ∀ l : List S35, (∀ x ∈ l, wtI (toN x) = wtN x) → wtIL (toL l) = wtL l
  | [], _ => rfl
  | x :: r, h => by
    rw [toL, wtIL, wtL, h x (by simp), wtIL_to r (fun y hy => h y (by simp [hy]))]
theorem wtI_to : ∀ x, wtI (toN x) = wtN x := by
  apply node_ind
  intro a b c l ih
  rw [toN, wtI, wtN, wtIL_to l ih]
  have h2 : (toL l).length = l.length := by rw [toL_map, List.length_map]
  omega
theorem lenL_le : ∀ l : List S40, (∀ x ∈ l, lenN x ≤ wtI x) → lenL l ≤ wtIL l
  | [], _ => Nat.le_refl _
  | x :: r, h => by
    rw [lenL, wtIL]
    have h1 := h x (by simp)
    have h2 := lenL_le r (fun y hy => h y (by simp [hy]))
    omega
theorem lenN_le : ∀ x : S40, lenN x ≤ wtI x := by
  apply nodeI_ind
  intro a b c l ih
  rw [lenN, wtI]
  have := lenL_le l ih
  omega

def lenB (s : ByteArray) (a b : Int) : Bool := decide (a ≤ (s.size : Int)) && decide ((s.size : Int) ≤ b)

/-- byte classes -/
def plainC (c : Int) : Bool := decide (32 ≤ c) && decide (c ≤ 126)
def smallC (c : Int) : Bool := decide (97 ≤ c) && decide (c ≤ 122)
def digitC (c : Int) : Bool := decide (48 ≤ c) && decide (c ≤ 57)
def largeC (c : Int) : Bool := decide (65 ≤ c) && decide (c ≤ 90)

theorem in_eq (c a b : Int) : impl_in.f c a b = some (decide (a ≤ c) && decide (c ≤ b)) := by
  unfold impl_in.f; split <;> simp [*] <;> omega

theorem isSmall_eq (c : Int) : impl_isSmall.f c = some (smallC c) := by
  unfold impl_isSmall.f smallC; split <;> simp [*] <;> omega

theorem isDigit_eq (c : Int) : impl_isDigit.f c = some (digitC c) := by
  unfold impl_isDigit.f digitC; split <;> simp [*] <;> omega

theorem l1In_eq (c a b : Int) : spec_l1In.f c a b = some (decide (a ≤ c) && decide (c ≤ b)) := by
  unfold spec_l1In.f; split <;> simp [*] <;> omega

theorem l1Small_eq (c : Int) (h : wrap64 c = c) : spec_l1Small.f c = some (smallC c) := by
  unfold spec_l1Small.f; rw [h, l1In_eq]; rfl

theorem l1Digit_eq (c : Int) (h : wrap64 c = c) : spec_l1Digit.f c = some (digitC c) := by
  unfold spec_l1Digit.f; rw [h, l1In_eq]; rfl

/-- a small name -/
def snC (first : Bool) (c : Int) : Bool := smallC c || (!first && (digitC c || decide (c = 45)))
def snB : Nat → List Int → Bool
  | _, [] => true
  | i, c :: r => snC (i == 0) c && snB (i + 1) r
def smallName (s : ByteArray) : Bool := snB 0 (bytesOf s) && lenB s 1 20
theorem impl_SmallName_ev (s : ByteArray) (hs : s.size ≤ 140737488351232) : Ev (fun k => impl_SmallName.f k s) (smallName s) := by
  refine str_loop_st s (fun i (_ : Unit) k => impl_SmallName.l0 k s (i : Int)) (fun i _ r => snB i r && lenB s 1 20) (fun _ _ _ => True) ?_ ?_ hs 0 () trivial
  · intro i _ _ hi
    apply ev_succ; simp only [impl_SmallName.l0, if_neg (show ¬ (i : Int) < s.size by omega), in_eq, Option.bind_some]; exact Ev.now _
  · intro i _ c r _ h hb hi hw hw1 ih
    replace ih := ih () trivial
    apply ev_succ
    simp only [impl_SmallName.l0, if_pos (show (i : Int) < s.size by omega), if_pos (show (0 : Int) ≤ i by omega), hb, isSmall_eq, isDigit_eq, Option.bind_some, hw1]
    refine ev_iteB (fun q => ?_) (fun q => ev_ite (fun q0 => ?_) (fun q0 => ?_))
    · simpa [snB, snC, q] using ih
    · have : i = 0 := by omega
      subst this; simpa [snB, snC, q] using Ev.now false
    · have hi0 : (i == 0) = false := by simp; omega
      refine ev_iteB (fun q1 => ?_) (fun q1 => ev_ite (fun q2 => ?_) (fun q2 => ?_))
      · simpa [snB, snC, q, hi0, q1] using ih
      · subst q2; simpa [snB, snC, q, hi0, q1] using ih
      · simpa [snB, snC, q, hi0, q1, q2] using Ev.now false
theorem spec_SmallName_ev (s : ByteArray) (hs : s.size ≤ 140737488351232) : Ev (fun k => spec_SmallName.f k s) (smallName s) := by
  refine str_loop_st s (fun i (_ : Unit) k => spec_SmallName.l0 k s (i : Int)) (fun i _ r => snB i r && lenB s 1 20) (fun _ _ _ => True) ?_ ?_ hs 0 () trivial
  · intro i _ _ hi
    apply ev_succ; simp only [spec_SmallName.l0, if_neg (show ¬ (i : Int) < s.size by omega), l1In_eq, Option.bind_some]; exact Ev.now _
  · intro i _ c r _ h hb hi hw hw1 ih
    replace ih := ih () trivial
    apply ev_succ
    simp only [spec_SmallName.l0, if_pos (show (i : Int) < s.size by omega), if_pos (show (0 : Int) ≤ i by omega), hb, l1Small_eq c hw, l1Digit_eq c hw, Option.bind_some, hw1]
    refine ev_iteB (fun q => ?_) (fun q => ev_ite (fun q0 => ?_) (fun q0 => ?_))
    · simpa [snB, snC, q] using ih
    · have : i = 0 := by omega
      subst this; simpa [snB, snC, q] using Ev.now false
    · have hi0 : (i == 0) = false := by simp; omega
      refine ev_iteB (fun q1 => ?_) (fun q1 => ev_ite (fun q2 => ?_) (fun q2 => ?_))
      · simpa [snB, snC, q, hi0, q1] using ih
      · subst q2; simpa [snB, snC, q, hi0, q1] using ih
      · simpa [snB, snC, q, hi0, q1, q2] using Ev.now false

theorem isPlain_eq (c : Int) : impl_isPlain.f c = some (plainC c) := by
  unfold impl_isPlain.f plainC; split <;> simp [*] <;> omega
def plainB (l : List Int) : Bool := l.all plainC
theorem impl_Plain_ev (s : ByteArray) (hs : s.size ≤ 140737488351232) : Ev (fun k => impl_Plain.f k s) (plainB (bytesOf s)) := by
  refine str_loop s (fun i k => impl_Plain.l0 k s (i : Int)) plainB ?_ ?_ hs 0
  · intro i hi
    apply ev_succ; simp only [impl_Plain.l0, if_neg (show ¬ (i : Int) < s.size by omega)]; exact Ev.now _
  · intro i c r h hb hi hw hw1 ih
    apply ev_succ
    simp only [impl_Plain.l0, if_pos (show (i : Int) < s.size by omega), if_pos (show (0 : Int) ≤ i by omega), hb, isPlain_eq, Option.bind_some, hw1]
    refine ev_ite (fun h => ?_) (fun h => ?_)
    · simpa [plainB, h] using ih
    · simpa [plainB, h] using Ev.now _
theorem spec_Plain_ev (s : ByteArray) (hs : s.size ≤ 140737488351232) : Ev (fun k => spec_Plain.f k s) (plainB (bytesOf s)) := by
  refine str_loop s (fun i k => spec_Plain.l0 k s (i : Int)) plainB ?_ ?_ hs 0
  · intro i hi
    apply ev_succ; simp only [spec_Plain.l0, if_neg (show ¬ (i : Int) < s.size by omega)]; exact Ev.now _
  · intro i c r h hb hi hw hw1 ih
    apply ev_succ
    simp only [spec_Plain.l0, if_pos (show (i : Int) < s.size by omega), if_pos (show (0 : Int) ≤ i by omega), hb, hw, l1In_eq, Option.bind_some, hw1]
    refine ev_ite (fun h => ?_) (fun h => ?_)
    · have : plainC c = true := h
      simpa [plainB, this] using ih
    · have : plainC c = false := by simpa [plainC] using h
      simpa [plainB, this] using Ev.now _

def badN (a b c : ByteArray) (l : List S40) (d : Int) : Bool :=
  decide (d > 5) || decide ((a.size : Int) > 20) || !plainB (bytesOf a) || !smallName b || decide ((c.size : Int) > 60) || !plainB (bytesOf c) || (decide (c.toList ≠ []) && decide ((l.length : Int) > 0))
mutual
def cntN : S40 → Int → Int
  | ⟨a, b, c, l⟩, d => if badN a b c l d = true then 100 else cntL l (d + 1) 1
def cntL : List S40 → Int → Int → Int
  | [], _, k => k
  | x :: r, d, k => if k ≤ 20 then cntL r d (k + cntN x d) else k
end
mutual
def okN : S40 → Int → Int × Bool
  | ⟨a, b, c, l⟩, d => if badN a b c l d = true then (0, false) else okL l (d + 1) 1
def okL : List S40 → Int → Int → Int × Bool
  | [], _, k => (k, true)
  | x :: r, d, k => if (okN x d).2 = true then (if k + (okN x d).1 > 20 then (0, false) else okL r d (k + (okN x d).1)) else (0, false)
end
theorem cntL_ge : ∀ (l : List S40) (d k : Int), (∀ x ∈ l, 1 ≤ cntN x d) → 0 ≤ k → k ≤ cntL l d k
  | [], d, k, h, hk => by rw [cntL]; omega
  | x :: r, d, k, h, hk => by
    rw [cntL]
    have h1 := h x (by simp)
    split
    · have := cntL_ge r d (k + cntN x d) (fun y hy => h y (by simp [hy])) (by omega)
      omega
    · omega
theorem cntN_ge : ∀ (x : S40) (d : Int), 1 ≤ cntN x d := by
  apply nodeI_ind
  intro a b c l ih d
  rw [cntN]
  split
  · omega
  · have := cntL_ge l (d + 1) 1 (fun x hx => ih x hx _) (by omega)
    omega
theorem cntL_le (B : Int) (hB : 0 ≤ B) : ∀ (l : List S40) (d k : Int), (∀ x ∈ l, cntN x d ≤ B) → k ≤ 20 + B → cntL l d k ≤ 20 + B
  | [], d, k, h, hk => by rw [cntL]; omega
  | x :: r, d, k, h, hk => by
    rw [cntL]
    have h1 := h x (by simp)
    split
    · exact cntL_le B hB r d (k + cntN x d) (fun y hy => h y (by simp [hy])) (by omega)
    · omega
theorem cntN_le : ∀ (x : S40) (d : Int), cntN x d ≤ 100 + 20 * (lenN x : Int) := by
  apply nodeI_ind
  intro a b c l ih d
  rw [cntN, lenN]
  split
  · omega
  · match l, ih with
    | [], _ => rw [cntL]; simp [lenL]
    | x :: r, ih =>
      have := cntL_le (100 + 20 * (lenL (x :: r) : Int)) (by omega) (x :: r) (d + 1) 1 (fun y hy => by
        have h1 := ih y hy (d + 1)
        have h2 := lenL_mem hy
        omega) (by omega)
      simp only [List.length_cons]
      omega
theorem okL_eq : ∀ (l : List S40) (d k : Int), (∀ x ∈ l, okN x d = if cntN x d ≤ 20 then (cntN x d, true) else (0, false)) → 0 ≤ k → k ≤ 20 → okL l d k = if cntL l d k ≤ 20 then (cntL l d k, true) else (0, false)
  | [], d, k, h, h0, hk => by rw [okL, cntL, if_pos hk]
  | x :: r, d, k, h, h0, hk => by
    rw [okL, cntL, if_pos hk, h x (by simp)]
    have h1 := cntN_ge x d
    have hr := cntL_ge r d (k + cntN x d) (fun y _ => cntN_ge y d) (by omega)
    by_cases q : cntN x d ≤ 20
    · simp only [if_pos q, if_true]
      by_cases q1 : k + cntN x d > 20
      · rw [if_pos q1, if_neg (by omega)]
      · rw [if_neg q1]
        exact okL_eq r d (k + cntN x d) (fun y hy => h y (by simp [hy])) (by omega) (by omega)
    · simp only [if_neg q, Bool.false_eq_true, if_false]
      rw [if_neg (by omega)]
theorem okN_eq : ∀ (x : S40) (d : Int), okN x d = if cntN x d ≤ 20 then (cntN x d, true) else (0, false) := by
  apply nodeI_ind
  intro a b c l ih d
  rw [okN, cntN]
  split
  · rw [if_neg (by omega)]
  · exact okL_eq l (d + 1) 1 (fun x hx => ih x hx _) (by omega) (by omega)
theorem badN_kids {a b c : ByteArray} {l : List S40} {d : Int} (h : ¬ badN a b c l d = true) : d ≤ 5 := by
  unfold badN at h
  simp at h
  omega
theorem count_ev : ∀ (x : S40), wtI x ≤ 1048576 → ∀ d : Int, 1 ≤ d → d ≤ 6 → Ev (fun k => spec_l8Count.f k x.f0 x.f1 x.f2 x.f3 d) (cntN x d) := by
  apply nodeI_ind
  intro a b c l ih hw d h1 h6
  have hlen := lenL_le l (fun x _ => lenN_le x)
  rw [wtI] at hw
  have hbad : badN a b c l d = true → Ev (fun k => spec_l8Count.j0 k d true a b c l) (cntN ⟨a, b, c, l⟩ d) := fun h => by
    rw [cntN, if_pos h]
    apply ev_succ; simp only [spec_l8Count.j0, if_true]; exact Ev.now _
  have hgood : badN a b c l d = false → Ev (fun k => spec_l8Count.j0 k d false a b c l) (cntN ⟨a, b, c, l⟩ d) := fun h => by
    have h5 := badN_kids (by rw [h]; simp : ¬ badN a b c l d = true)
    rw [cntN, if_neg (by rw [h]; simp)]
    apply ev_succ; simp only [spec_l8Count.j0, Bool.false_eq_true, if_false]
    have key : ∀ (r : List S40) (i : Nat) (n : Int), l.drop i = r → 0 ≤ n → n ≤ 30000000 → Ev (fun k => spec_l8Count.l0 k d n (i : Int) a b c l) (cntL r (d + 1) n) := by
      intro r
      induction r with
      | nil =>
        intro i n h h0 hn
        have := List.drop_eq_nil_iff.1 h
        apply ev_succ; simp only [spec_l8Count.l0, if_neg (show ¬ (i : Int) < (l.length : Int) by omega), cntL]; exact Ev.now _
      | cons x r ihr =>
        intro i n h h0 hn
        obtain ⟨hb, hi, hd, hg⟩ := l_drop h
        have hrd : rd_T40 l (i : Int) = x := hb _
        have hx := List.mem_of_getElem? hg
        have hxw := wtIL_mem hx
        have hxl := lenN_le x
        have c1 := cntN_ge x (d + 1)
        have c2 := cntN_le x (d + 1)
        apply ev_succ
        simp only [spec_l8Count.l0, if_pos (show (i : Int) < (l.length : Int) by omega), if_pos (show (0 : Int) ≤ (i : Int) by omega), hrd, wrap_id (x := (i : Int) + 1) (by omega) (by omega), wrap_id (x := d + 1) (by omega) (by omega), cntL]
        refine ev_ite (fun q => ?_) (fun q => ?_)
        · rw [if_pos q]
          refine Ev.bind (ih x hx (by omega) (d + 1) (by omega) (by omega)) ?_
          simp only [wrap_id (x := n + cntN x (d + 1)) (by omega) (by omega)]
          exact ihr (i + 1) _ hd (by omega) (by omega)
        · rw [if_neg q]; exact Ev.now _
    exact key l 0 1 rfl (by omega) (by omega)
  apply ev_succ
  simp only [spec_l8Count.f]
  refine ev_ite (fun q => hbad (by simp [badN, q])) (fun q => ?_)
  refine Ev.bind (spec_SmallName_ev b (by omega)) (ev_iteB (fun q1 => ?_) (fun q1 => hbad (by simp [badN, q1])))
  refine ev_ite (fun q2 => hbad (by simp [badN, q2])) (fun q2 => ?_)
  refine Ev.bind (spec_Plain_ev a (by omega)) (ev_iteB (fun q3 => ?_) (fun q3 => hbad (by simp [badN, q3])))
  refine ev_ite (fun q4 => hbad (by simp [badN, q4])) (fun q4 => ?_)
  refine Ev.bind (spec_Plain_ev c (by omega)) (ev_iteB (fun q5 => ?_) (fun q5 => hbad (by simp [badN, q5])))
  refine ev_ite (fun q6 => hgood (by simp [badN, q1, q3, q5, q6]; omega)) (fun q6 => ?_)
  by_cases q7 : (l.length : Int) > 0
  · rw [decide_eq_true q7]; exact hbad (by simp [badN, q6]; omega)
  · have q8 : l = [] := List.eq_nil_of_length_eq_zero (by omega)
    rw [decide_eq_false q7]; exact hgood (by simp [badN, q1, q3, q5, q8]; omega)
theorem nodeOk_ev : ∀ (x : S40), wtI x ≤ 1048576 → ∀ d : Int, 1 ≤ d → d ≤ 6 → Ev (fun k => impl_nodeOk.f k x.f0 x.f1 x.f2 x.f3 d) (okN x d) := by
  apply nodeI_ind
  intro a b c l ih hw d h1 h6
  rw [wtI] at hw
  have hbad : badN a b c l d = true → Ev (fun k => impl_nodeOk.j0 k d true a b c l) (okN ⟨a, b, c, l⟩ d) := fun h => by
    rw [okN, if_pos h]
    apply ev_succ; simp only [impl_nodeOk.j0, if_true]; exact Ev.now _
  have hgood : badN a b c l d = false → Ev (fun k => impl_nodeOk.j0 k d false a b c l) (okN ⟨a, b, c, l⟩ d) := fun h => by
    have h5 := badN_kids (by rw [h]; simp : ¬ badN a b c l d = true)
    rw [okN, if_neg (by rw [h]; simp)]
    apply ev_succ; simp only [impl_nodeOk.j0, Bool.false_eq_true, if_false]
    have key : ∀ (r : List S40) (i : Nat) (n : Int), l.drop i = r → 0 ≤ n → n ≤ 20 → Ev (fun k => impl_nodeOk.l0 k d n l (l.length : Int) (i : Int)) (okL r (d + 1) n) := by
      intro r
      induction r with
      | nil =>
        intro i n h h0 hn
        have := List.drop_eq_nil_iff.1 h
        apply ev_succ; simp only [impl_nodeOk.l0, if_neg (show ¬ (i : Int) < (l.length : Int) by omega), okL]; exact Ev.now _
      | cons x r ihr =>
        intro i n h h0 hn
        obtain ⟨hb, hi, hd, hg⟩ := l_drop h
        have hrd : rd_T40 l (i : Int) = x := hb _
        have hx := List.mem_of_getElem? hg
        have hxw := wtIL_mem hx
        have hoe := okN_eq x (d + 1)
        have c1 := cntN_ge x (d + 1)
        apply ev_succ
        simp only [impl_nodeOk.l0, if_pos (show (i : Int) < (l.length : Int) by omega), if_pos (show (0 : Int) ≤ (i : Int) by omega), hrd, wrap_id (x := (i : Int) + 1) (by omega) (by omega), wrap_id (x := d + 1) (by omega) (by omega), okL]
        refine Ev.bind (ih x hx (by omega) (d + 1) (by omega) (by omega)) (ev_iteB (fun q => ?_) (fun q => ?_))
        · have hle : (okN x (d + 1)).1 = cntN x (d + 1) ∧ cntN x (d + 1) ≤ 20 := by
            rw [hoe] at q ⊢
            by_cases z : cntN x (d + 1) ≤ 20
            · rw [if_pos z]; exact ⟨rfl, z⟩
            · rw [if_neg z] at q; cases q
          rw [if_pos q, wrap_id (x := n + (okN x (d + 1)).1) (by omega) (by omega)]
          refine ev_ite (fun q1 => ?_) (fun q1 => ?_)
          · rw [if_pos q1]; exact Ev.now _
          · rw [if_neg q1]
            exact ihr (i + 1) _ hd (by omega) (by omega)
        · rw [if_neg (by rw [q]; simp)]; exact Ev.now _
    exact key l 0 1 rfl (by omega) (by omega)
  apply ev_succ
  simp only [impl_nodeOk.f]
  refine ev_ite (fun q => hbad (by simp [badN, q])) (fun q => ?_)
  refine ev_ite (fun q2 => hbad (by simp [badN, q2])) (fun q2 => ?_)
  refine Ev.bind (impl_Plain_ev a (by omega)) (ev_iteB (fun q3 => ?_) (fun q3 => hbad (by simp [badN, q3])))
  refine Ev.bind (impl_SmallName_ev b (by omega)) (ev_iteB (fun q1 => ?_) (fun q1 => hbad (by simp [badN, q1])))
  refine ev_ite (fun q4 => hbad (by simp [badN, q4])) (fun q4 => ?_)
  refine Ev.bind (impl_Plain_ev c (by omega)) (ev_iteB (fun q5 => ?_) (fun q5 => hbad (by simp [badN, q5])))
  refine ev_ite (fun q6 => hgood (by simp [badN, q1, q3, q5, q6]; omega)) (fun q6 => ?_)
  by_cases q7 : (l.length : Int) > 0
  · rw [decide_eq_true q7]; exact hbad (by simp [badN, q6]; omega)
  · have q8 : l = [] := List.eq_nil_of_length_eq_zero (by omega)
    rw [decide_eq_false q7]; exact hgood (by simp [badN, q1, q3, q5, q8]; omega)
def nodeOk (x : S40) : Bool := decide (cntN x 1 ≤ 20)
theorem spec_NodeOk_ev (x : S40) (hw : wtI x ≤ 1048576) : Ev (fun k => spec_NodeOk.f k x.f0 x.f1 x.f2 x.f3) (nodeOk x) := by
  unfold spec_NodeOk.f
  exact Ev.bind (count_ev x hw 1 (by omega) (by omega)) (Ev.now _)
theorem impl_NodeOk_ev (x : S40) (hw : wtI x ≤ 1048576) : Ev (fun k => impl_NodeOk.f k x.f0 x.f1 x.f2 x.f3) (nodeOk x) := by
  unfold impl_NodeOk.f
  refine Ev.bind (nodeOk_ev x hw 1 (by omega) (by omega)) ?_
  have : (okN x 1).2 = nodeOk x := by
    rw [okN_eq]
    unfold nodeOk
    by_cases q : cntN x 1 ≤ 20
    · rw [if_pos q, decide_eq_true q]
    · rw [if_neg q, decide_eq_false q]
  rw [this]
  exact Ev.now _
theorem argN {a b c : ByteArray} {l : List S35} (h0 : a.size ≤ 9223372036854775807) (h1 : b.size ≤ 9223372036854775807) (h2 : c.size ≤ 9223372036854775807) (h3 : l.length ≤ 9223372036854775807 ∧ ∀ x ∈ l, ∀ n_ : Nat, B35 n_ x) : ∀ n, B35 n ⟨a, b, c, l⟩
  | 0 => trivial
  | n + 1 => ⟨h0, h1, h2, h3.1, fun y hy => h3.2 y hy n⟩

/-- the marks' names -/
def escC (c : Int) : List Int := if c = 38 then [38, 97, 109, 112, 59] else if c = 60 then [38, 108, 116, 59] else if c = 62 then [38, 103, 116, 59] else if c = 34 then [38, 113, 117, 111, 116, 59] else [c]
def escL (l : List Int) : List Int := l.flatMap escC
theorem escC_len (c : Int) : (escC c).length ≤ 6 := by
  unfold escC
  repeat' split
  all_goals simp
theorem impl_Escape_l0 {s : ByteArray} (hs : s.size ≤ 140737488351232) : ∀ (i : Nat) (x : ByteArray), x.size ≤ 6 * i → Ev (fun k => impl_Escape.l0 k s x (i : Int)) (strOfNums (bytesOf x ++ escL ((bytesOf s).drop i))) := by
  refine str_loop_st s (fun i x k => impl_Escape.l0 k s x (i : Int)) (fun i x r => strOfNums (bytesOf x ++ escL r)) (fun i x _ => x.size ≤ 6 * i) ?_ ?_ hs
  · intro i x _ hi
    apply ev_succ; simp only [impl_Escape.l0, if_neg (show ¬ (i : Int) < s.size by omega)]
    simpa [escL, strOfNums_bytesOf] using Ev.now x
  · intro i x c r hx h hb hi hw hw1 ih
    apply ev_succ
    have e1 := extract_one h
    have e1s : (s.extract i (i + 1)).size = 1 := by rw [size_len, e1]; rfl
    simp only [impl_Escape.l0, if_pos (show (i : Int) < s.size by omega), if_pos (show (0 : Int) ≤ i by omega), hb, hw1, if_pos (show x.size + 5 ≤ 9223372036854775807 by omega), if_pos (show x.size + 4 ≤ 9223372036854775807 by omega), if_pos (show x.size + 6 ≤ 9223372036854775807 by omega),
      if_pos (show (i : Int) ≤ ((i + 1 : Nat) : Int) by omega), if_pos (show ((i + 1 : Nat) : Int) ≤ s.size by omega), Int.toNat_natCast, e1s, if_pos (show x.size + 1 ≤ 9223372036854775807 by omega)]
    have fin : ∀ y : ByteArray, bytesOf y = escC c → Ev (fun k => impl_Escape.l0 k s (x ++ y) ((i + 1 : Nat) : Int)) (strOfNums (bytesOf x ++ escL (c :: r))) := by
      intro y hy
      have h6 := escC_len c
      have := ih (x ++ y) (by rw [ByteArray.size_append, size_len y, hy]; omega)
      rw [cat_ev hy] at this
      simpa [escL] using this
    refine ev_ite (fun h => fin _ ?_) (fun h => ev_ite (fun h0 => fin _ ?_) (fun h0 => ev_ite (fun h1 => fin _ ?_) (fun h1 => ev_ite (fun h2 => fin _ ?_) (fun h2 => fin _ ?_))))
    · simp [escC, h]; rfl
    · simp [escC, h0]; rfl
    · simp [escC, h1]; rfl
    · simp [escC, h2]; rfl
    · simpa [escC, h, h0, h1, h2] using e1
theorem impl_Escape_ev (s : ByteArray) (hs : s.size ≤ 140737488351232) : Ev (fun k => impl_Escape.f k s) (strOfNums (escL (bytesOf s))) :=
  impl_Escape_l0 hs 0 (⟨#[]⟩ : ByteArray) (Nat.le_refl 0)
theorem Escape_same : ∀ k (s x : ByteArray) (i : Int), spec_Escape.l0 k s x i = impl_Escape.l0 k s x i
  | 0, _, _, _ => rfl
  | k + 1, s, x, i => by simp only [spec_Escape.l0, impl_Escape.l0, Escape_same k]
theorem spec_Escape_ev (s : ByteArray) (hs : s.size ≤ 140737488351232) : Ev (fun k => spec_Escape.f k s) (strOfNums (escL (bytesOf s))) :=
  Ev.congr (fun k => Escape_same k s _ _) (impl_Escape_ev s hs)

def esc (s : ByteArray) : ByteArray := strOfNums (escL (bytesOf s))
theorem strOfNums_len (l : List Int) : (strOfNums l).size = l.length := by
  unfold strOfNums
  show (List.map _ l).toArray.size = _
  simp
theorem escL_len : ∀ l : List Int, (escL l).length ≤ 6 * l.length
  | [] => by simp [escL]
  | c :: r => by
    have h1 := escC_len c
    have h2 := escL_len r
    have e : escL (c :: r) = escC c ++ escL r := by simp [escL]
    rw [e, List.length_append, List.length_cons]
    omega
theorem esc_size (s : ByteArray) : (esc s).size ≤ 6 * s.size := by
  unfold esc
  rw [strOfNums_len]
  have := escL_len (bytesOf s)
  rw [bytesOf_length] at this
  exact this
/-- a mark's or a text's text -/
def spaceT (has : Bool) (ns : ByteArray) : ByteArray := if has = true then ((⟨#[32, 120, 109, 108, 110, 115, 61, 34]⟩ : ByteArray) ++ esc ns) ++ (⟨#[34]⟩ : ByteArray) else (⟨#[]⟩ : ByteArray)
def pieceT (K : Int) (name sp s : ByteArray) : ByteArray :=
  if K = 1 then (((⟨#[60]⟩ : ByteArray) ++ name) ++ sp) ++ (⟨#[62]⟩ : ByteArray) else if K = 2 then ((⟨#[60, 47]⟩ : ByteArray) ++ name) ++ (⟨#[62]⟩ : ByteArray) else if K = 3 then (((⟨#[60]⟩ : ByteArray) ++ name) ++ sp) ++ (⟨#[47, 62]⟩ : ByteArray) else esc s
theorem spaceT_size (has : Bool) (ns : ByteArray) : (spaceT has ns).size ≤ 9 + 6 * ns.size := by
  have := esc_size ns
  unfold spaceT
  split
  · simp only [ByteArray.size_append, show (⟨#[32, 120, 109, 108, 110, 115, 61, 34]⟩ : ByteArray).size = 8 from rfl, show (⟨#[34]⟩ : ByteArray).size = 1 from rfl]; omega
  · show 0 ≤ _; omega
theorem sz1 (x : UInt8) : (⟨#[x]⟩ : ByteArray).size = 1 := rfl
theorem sz2 (x y : UInt8) : (⟨#[x, y]⟩ : ByteArray).size = 2 := rfl
theorem pieceT_size (K : Int) (name sp s : ByteArray) : (pieceT K name sp s).size ≤ 3 + name.size + sp.size + 6 * s.size := by
  have := esc_size s
  unfold pieceT
  repeat' split
  all_goals (try simp only [ByteArray.size_append, sz1, sz2])
  all_goals omega
theorem impl_PieceText_ev (K : Int) (name ns s : ByteArray) (has : Bool) (h0 : name.size ≤ 1048576) (h1 : ns.size ≤ 1048576) (h2 : s.size ≤ 1048576) : Ev (fun k => impl_PieceText.f k K name ns has s) (pieceT K name (spaceT has ns) s) := by
  have e1 := esc_size ns
  have hj : ∀ sp : ByteArray, sp.size ≤ 9 + 6 * ns.size → Ev (fun k => impl_PieceText.j0 k sp K name ns has s) (pieceT K name sp s) := by
    intro sp hsp
    apply ev_succ
    simp only [impl_PieceText.j0, ByteArray.size_append, sz1, sz2, if_pos (show 1 + name.size ≤ 9223372036854775807 by omega), if_pos (show 1 + name.size + sp.size ≤ 9223372036854775807 by omega), if_pos (show 1 + name.size + sp.size + 1 ≤ 9223372036854775807 by omega), if_pos (show 2 + name.size ≤ 9223372036854775807 by omega), if_pos (show 2 + name.size + 1 ≤ 9223372036854775807 by omega), if_pos (show 1 + name.size + sp.size + 2 ≤ 9223372036854775807 by omega), pieceT]
    refine ev_ite (fun q => ?_) (fun q => ?_)
    · rw [if_pos q]; exact Ev.now _
    rw [if_neg q]
    refine ev_ite (fun q => ?_) (fun q => ?_)
    · rw [if_pos q]; exact Ev.now _
    rw [if_neg q]
    refine ev_ite (fun q => ?_) (fun q => ?_)
    · rw [if_pos q]; exact Ev.now _
    rw [if_neg q]
    exact Ev.bind (impl_Escape_ev s (by omega)) (Ev.now _)
  unfold impl_PieceText.f
  refine ev_iteB (fun q => ?_) (fun q => ?_)
  · refine Ev.bind (impl_Escape_ev ns (by omega)) ?_
    change Ev (fun k => if 8 + (esc ns).size ≤ 9223372036854775807 then (if ((⟨#[32, 120, 109, 108, 110, 115, 61, 34]⟩ : ByteArray) ++ esc ns).size + 1 ≤ 9223372036854775807 then (impl_PieceText.j0 k (((⟨#[32, 120, 109, 108, 110, 115, 61, 34]⟩ : ByteArray) ++ esc ns) ++ (⟨#[34]⟩ : ByteArray)) K name ns has s) else none) else none) _
    have e8 : ((⟨#[32, 120, 109, 108, 110, 115, 61, 34]⟩ : ByteArray) ++ esc ns).size = 8 + (esc ns).size := by rw [ByteArray.size_append]; rfl
    simp only [e8, if_pos (show 8 + (esc ns).size ≤ 9223372036854775807 by omega), if_pos (show 8 + (esc ns).size + 1 ≤ 9223372036854775807 by omega)]
    have es : spaceT has ns = ((⟨#[32, 120, 109, 108, 110, 115, 61, 34]⟩ : ByteArray) ++ esc ns) ++ (⟨#[34]⟩ : ByteArray) := by unfold spaceT; rw [if_pos q]
    rw [es]
    refine hj _ ?_
    rw [ByteArray.size_append, e8, sz1]
    omega
  · have es : spaceT has ns = (⟨#[]⟩ : ByteArray) := by unfold spaceT; rw [if_neg (by rw [q]; simp)]
    rw [es]
    exact hj _ (by show 0 ≤ _; omega)
theorem spec_PieceText_ev (K : Int) (name ns s : ByteArray) (has : Bool) (h0 : name.size ≤ 1048576) (h1 : ns.size ≤ 1048576) (h2 : s.size ≤ 1048576) : Ev (fun k => spec_PieceText.f k K name ns has s) (pieceT K name (spaceT has ns) s) := by
  have e1 := esc_size ns
  have hj : ∀ sp : ByteArray, sp.size ≤ 9 + 6 * ns.size → Ev (fun k => spec_PieceText.j0 k sp K name ns has s) (pieceT K name sp s) := by
    intro sp hsp
    apply ev_succ
    simp only [spec_PieceText.j0, ByteArray.size_append, sz1, sz2, if_pos (show 1 + name.size ≤ 9223372036854775807 by omega), if_pos (show 1 + name.size + sp.size ≤ 9223372036854775807 by omega), if_pos (show 1 + name.size + sp.size + 1 ≤ 9223372036854775807 by omega), if_pos (show 2 + name.size ≤ 9223372036854775807 by omega), if_pos (show 2 + name.size + 1 ≤ 9223372036854775807 by omega), if_pos (show 1 + name.size + sp.size + 2 ≤ 9223372036854775807 by omega), pieceT]
    refine ev_ite (fun q => ?_) (fun q => ?_)
    · rw [if_pos q]; exact Ev.now _
    rw [if_neg q]
    refine ev_ite (fun q => ?_) (fun q => ?_)
    · rw [if_pos q]; exact Ev.now _
    rw [if_neg q]
    refine ev_ite (fun q => ?_) (fun q => ?_)
    · rw [if_pos q]; exact Ev.now _
    rw [if_neg q]
    exact Ev.bind (spec_Escape_ev s (by omega)) (Ev.now _)
  unfold spec_PieceText.f
  refine ev_iteB (fun q => ?_) (fun q => ?_)
  · refine Ev.bind (spec_Escape_ev ns (by omega)) ?_
    change Ev (fun k => if 8 + (esc ns).size ≤ 9223372036854775807 then (if ((⟨#[32, 120, 109, 108, 110, 115, 61, 34]⟩ : ByteArray) ++ esc ns).size + 1 ≤ 9223372036854775807 then (spec_PieceText.j0 k (((⟨#[32, 120, 109, 108, 110, 115, 61, 34]⟩ : ByteArray) ++ esc ns) ++ (⟨#[34]⟩ : ByteArray)) K name ns has s) else none) else none) _
    have e8 : ((⟨#[32, 120, 109, 108, 110, 115, 61, 34]⟩ : ByteArray) ++ esc ns).size = 8 + (esc ns).size := by rw [ByteArray.size_append]; rfl
    simp only [e8, if_pos (show 8 + (esc ns).size ≤ 9223372036854775807 by omega), if_pos (show 8 + (esc ns).size + 1 ≤ 9223372036854775807 by omega)]
    have es : spaceT has ns = ((⟨#[32, 120, 109, 108, 110, 115, 61, 34]⟩ : ByteArray) ++ esc ns) ++ (⟨#[34]⟩ : ByteArray) := by unfold spaceT; rw [if_pos q]
    rw [es]
    refine hj _ ?_
    rw [ByteArray.size_append, e8, sz1]
    omega
  · have es : spaceT has ns = (⟨#[]⟩ : ByteArray) := by unfold spaceT; rw [if_neg (by rw [q]; simp)]
    rw [es]
    exact hj _ (by show 0 ≤ _; omega)

mutual
noncomputable def textN : S40 → ByteArray → ByteArray
  | ⟨a, b, c, l⟩, ns => if c.toList = [] ∧ l.length = 0 then pieceT 3 b (spaceT (!eqb a ns) a) (⟨#[]⟩ : ByteArray) else ((textL l a (pieceT 1 b (spaceT (!eqb a ns) a) (⟨#[]⟩ : ByteArray) ++ esc c) ++ (⟨#[60, 47]⟩ : ByteArray)) ++ b) ++ (⟨#[62]⟩ : ByteArray)
noncomputable def textL : List S40 → ByteArray → ByteArray → ByteArray
  | [], _, out => out
  | x :: r, ns, out => textL r ns (out ++ textN x ns)
end
theorem textL_size (M : Nat → Nat) (ns : ByteArray) : ∀ (l : List S40) (out : ByteArray), (∀ x ∈ l, (textN x ns).size ≤ 40 * (wtI x + 1)) → (textL l ns out).size ≤ out.size + 40 * (wtIL l + l.length)
  | [], out, h => by rw [textL]; omega
  | x :: r, out, h => by
    rw [textL, wtIL]
    have h1 := h x (by simp)
    have h2 := textL_size M ns r (out ++ textN x ns) (fun y hy => h y (by simp [hy]))
    rw [ByteArray.size_append] at h2
    simp only [List.length_cons]
    omega
theorem textN_size : ∀ (x : S40) (ns : ByteArray), (textN x ns).size ≤ 40 * (wtI x + 1) := by
  apply nodeI_ind
  intro a b c l ih ns
  have e0 : (⟨#[]⟩ : ByteArray).size = 0 := rfl
  have hs := spaceT_size (!eqb a ns) a
  rw [textN, wtI]
  split
  · have := pieceT_size 3 b (spaceT (!eqb a ns) a) (⟨#[]⟩ : ByteArray)
    omega
  · have h1 := pieceT_size 1 b (spaceT (!eqb a ns) a) (⟨#[]⟩ : ByteArray)
    have h2 := esc_size c
    have h3 := textL_size id a l (pieceT 1 b (spaceT (!eqb a ns) a) (⟨#[]⟩ : ByteArray) ++ esc c) (fun x hx => ih x hx a)
    rw [ByteArray.size_append] at h3
    simp only [ByteArray.size_append, sz1, sz2]
    omega
theorem bne_eqb (a b : ByteArray) : (a.toList != b.toList) = !eqb a b := by
  by_cases h : a = b
  · subst h
    rw [eqb_self]
    simp
  · rw [eqb_ne h, bne_iff_ne.2 (fun e => h ((toList_iff a b).1 e))]
    rfl
theorem textL_mono (ns : ByteArray) : ∀ (l : List S40) (out : ByteArray), out.size ≤ (textL l ns out).size
  | [], out => by rw [textL]; omega
  | x :: r, out => by
    rw [textL]
    have := textL_mono ns r (out ++ textN x ns)
    rw [ByteArray.size_append] at this
    omega
/-- the loop over the kids, in either text -/
theorem kids_loop (g : ByteArray → Nat → Nat → Option ByteArray) (A : S40 → Nat → Option ByteArray) (a b : ByteArray) (L : List S40) (hL : L.length ≤ 1048576) (hb : b.size ≤ 1048576)
    (hn : ∀ out i, L.length ≤ i → out.size ≤ 1000000000 → Ev (g out i) (((out ++ (⟨#[60, 47]⟩ : ByteArray)) ++ b) ++ (⟨#[62]⟩ : ByteArray)))
    (hs : ∀ out i x, i < L.length → rd_T40 L (i : Int) = x → out.size ≤ 1000000000 → (textN x a).size ≤ 1000000000 → Ev (A x) (textN x a) → ∀ r, Ev (g (out ++ textN x a) (i + 1)) r → Ev (g out i) r)
    (hA : ∀ x ∈ L, Ev (A x) (textN x a)) :
    ∀ (l : List S40) (i : Nat) (out : ByteArray), L.drop i = l → (textL l a out).size ≤ 1000000000 → Ev (g out i) (((textL l a out ++ (⟨#[60, 47]⟩ : ByteArray)) ++ b) ++ (⟨#[62]⟩ : ByteArray))
  | [], i, out, h, hz => by
    have := List.drop_eq_nil_iff.1 h
    rw [textL] at hz ⊢
    exact hn out i this hz
  | x :: r, i, out, h, hz => by
    obtain ⟨hb', hi, hd, hg⟩ := l_drop h
    have h1 := textL_mono a r (out ++ textN x a)
    rw [textL] at hz ⊢
    rw [ByteArray.size_append] at h1
    exact hs out i x hi (hb' _) (by omega) (by omega) (hA x (List.mem_of_getElem? hg)) _ (kids_loop g A a b L hL hb hn hs hA r (i + 1) _ hd hz)
theorem X_ends {a b out : ByteArray} (hb : b.size ≤ 1048576) (ho : out.size ≤ 1000000000) : (if out.size + 2 ≤ 9223372036854775807 then (if (out ++ (⟨#[60, 47]⟩ : ByteArray)).size + b.size ≤ 9223372036854775807 then (if ((out ++ (⟨#[60, 47]⟩ : ByteArray)) ++ b).size + 1 ≤ 9223372036854775807 then (some (((out ++ (⟨#[60, 47]⟩ : ByteArray)) ++ b) ++ (⟨#[62]⟩ : ByteArray))) else (none)) else (none)) else (none)) = some (((out ++ (⟨#[60, 47]⟩ : ByteArray)) ++ b) ++ (⟨#[62]⟩ : ByteArray)) := by
  simp only [ByteArray.size_append, sz2]
  rw [if_pos (by omega), if_pos (by omega), if_pos (by omega)]
theorem impl_text_ev : ∀ x : S40, wtI x ≤ 1048576 → ∀ ns : ByteArray, Ev (fun k => impl_nodeText.f k x.f0 x.f1 x.f2 x.f3 ns) (textN x ns) := by
  apply nodeI_ind
  intro a b c l ih hw ns
  have hsz := textN_size ⟨a, b, c, l⟩ ns
  have hw0 := hw
  rw [wtI] at hw
  have hgood : ¬ (c.toList = [] ∧ l.length = 0) → Ev (fun k => impl_nodeText.j0 k false a b c l 1 b a (!eqb a ns) (⟨#[]⟩ : ByteArray)) (textN ⟨a, b, c, l⟩ ns) := fun q => by
    have hp := pieceT_size 1 b (spaceT (!eqb a ns) a) (⟨#[]⟩ : ByteArray)
    have hs := spaceT_size (!eqb a ns) a
    have hec := esc_size c
    have e0 : (⟨#[]⟩ : ByteArray).size = 0 := rfl
    have ht := textL_size id a l (pieceT 1 b (spaceT (!eqb a ns) a) (⟨#[]⟩ : ByteArray) ++ esc c) (fun x _ => textN_size x a)
    rw [ByteArray.size_append] at ht
    rw [textN, if_neg q]
    apply ev_succ; simp only [impl_nodeText.j0, Bool.false_eq_true, if_false]
    refine Ev.bind (impl_PieceText_ev 1 b a (⟨#[]⟩ : ByteArray) (!eqb a ns) (by omega) (by omega) (by omega)) (Ev.bind (impl_Escape_ev c (by omega)) ?_)
    change Ev (fun k => if (pieceT 1 b (spaceT (!eqb a ns) a) (⟨#[]⟩ : ByteArray)).size + (esc c).size ≤ 9223372036854775807 then (impl_nodeText.l0 k (pieceT 1 b (spaceT (!eqb a ns) a) (⟨#[]⟩ : ByteArray) ++ esc c) l (l.length : Int) 0 a b c l) else none) _
    simp only [if_pos (show (pieceT 1 b (spaceT (!eqb a ns) a) (⟨#[]⟩ : ByteArray)).size + (esc c).size ≤ 9223372036854775807 by omega)]
    refine kids_loop (fun out i k => impl_nodeText.l0 k out l (l.length : Int) (i : Int) a b c l) (fun x k => impl_nodeText.f k x.f0 x.f1 x.f2 x.f3 a) a b l (by omega) (by omega) ?_ ?_ (fun x hx => ih x hx (by have := wtIL_mem hx; omega) a) l 0 _ rfl (by omega)
    · intro out i hi ho
      apply ev_succ; simp only [impl_nodeText.l0, if_neg (show ¬ (i : Int) < (l.length : Int) by omega), X_ends (a := a) (show b.size ≤ 1048576 by omega) ho]; exact Ev.now _
    · intro out i x hi hx ho hx2 hA r hr
      apply ev_succ
      simp only [impl_nodeText.l0, if_pos (show (i : Int) < (l.length : Int) by omega), if_pos (show (0 : Int) ≤ (i : Int) by omega), hx, wrap_id (x := (i : Int) + 1) (by omega) (by omega)]
      refine Ev.bind hA ?_
      simp only [if_pos (show out.size + (textN x a).size ≤ 9223372036854775807 by omega)]
      exact hr
  apply ev_succ
  simp only [impl_nodeText.f, bne_eqb]
  refine ev_ite (fun q => ?_) (fun q => hgood (fun h => q h.1))
  by_cases q1 : l.length = 0
  · have e : ((l.length : Int) == 0) = true := by simp [q1]
    rw [e, textN, if_pos ⟨q, q1⟩]
    apply ev_succ; simp only [impl_nodeText.j0, if_true]
    exact Ev.bind (impl_PieceText_ev 3 b a (⟨#[]⟩ : ByteArray) (!eqb a ns) (by omega) (by omega) (by show 0 ≤ _; omega)) (Ev.now _)
  · have e : ((l.length : Int) == 0) = false := beq_eq_false_iff_ne.mpr (by omega)
    rw [e]
    exact hgood (fun h => q1 h.2)
theorem spec_text_ev : ∀ x : S40, wtI x ≤ 1048576 → ∀ ns : ByteArray, Ev (fun k => spec_l8Text.f k x.f0 x.f1 x.f2 x.f3 ns) (textN x ns) := by
  apply nodeI_ind
  intro a b c l ih hw ns
  have hw0 := hw
  rw [wtI] at hw
  have e0 : (⟨#[]⟩ : ByteArray).size = 0 := rfl
  have key : ∀ (p : ByteArray) (has : Bool), p.size ≤ 1048576 → spaceT has p = spaceT (!eqb a ns) a → Ev (fun k => spec_l8Text.j0 k a b c l 1 b p has (⟨#[]⟩ : ByteArray)) (textN ⟨a, b, c, l⟩ ns) := by
    intro p has hp0 hsp
    have hgood : ¬ (c.toList = [] ∧ l.length = 0) → Ev (fun k => spec_l8Text.j1 k false a b c l 1 b p has (⟨#[]⟩ : ByteArray)) (textN ⟨a, b, c, l⟩ ns) := fun q => by
      have hp := pieceT_size 1 b (spaceT (!eqb a ns) a) (⟨#[]⟩ : ByteArray)
      have hs := spaceT_size (!eqb a ns) a
      have hec := esc_size c
      have ht := textL_size id a l (pieceT 1 b (spaceT (!eqb a ns) a) (⟨#[]⟩ : ByteArray) ++ esc c) (fun x _ => textN_size x a)
      rw [ByteArray.size_append] at ht
      rw [textN, if_neg q]
      apply ev_succ; simp only [spec_l8Text.j1, Bool.false_eq_true, if_false]
      have hP := spec_PieceText_ev 1 b p (⟨#[]⟩ : ByteArray) has (by omega) (by omega) (by omega)
      rw [hsp] at hP
      refine Ev.bind hP (Ev.bind (spec_Escape_ev c (by omega)) ?_)
      change Ev (fun k => if (pieceT 1 b (spaceT (!eqb a ns) a) (⟨#[]⟩ : ByteArray)).size + (esc c).size ≤ 9223372036854775807 then (spec_l8Text.l0 k (pieceT 1 b (spaceT (!eqb a ns) a) (⟨#[]⟩ : ByteArray) ++ esc c) 0 a b c l) else none) _
      simp only [if_pos (show (pieceT 1 b (spaceT (!eqb a ns) a) (⟨#[]⟩ : ByteArray)).size + (esc c).size ≤ 9223372036854775807 by omega)]
      refine kids_loop (fun out i k => spec_l8Text.l0 k out (i : Int) a b c l) (fun x k => spec_l8Text.f k x.f0 x.f1 x.f2 x.f3 a) a b l (by omega) (by omega) ?_ ?_ (fun x hx => ih x hx (by have := wtIL_mem hx; omega) a) l 0 _ rfl (by omega)
      · intro out i hi ho
        apply ev_succ; simp only [spec_l8Text.l0, if_neg (show ¬ (i : Int) < (l.length : Int) by omega), X_ends (a := a) (show b.size ≤ 1048576 by omega) ho]; exact Ev.now _
      · intro out i x hi hx ho hx2 hA r hr
        apply ev_succ
        simp only [spec_l8Text.l0, if_pos (show (i : Int) < (l.length : Int) by omega), if_pos (show (0 : Int) ≤ (i : Int) by omega), hx, wrap_id (x := (i : Int) + 1) (by omega) (by omega)]
        refine Ev.bind hA ?_
        simp only [if_pos (show out.size + (textN x a).size ≤ 9223372036854775807 by omega)]
        exact hr
    apply ev_succ
    simp only [spec_l8Text.j0]
    refine ev_ite (fun q => ?_) (fun q => hgood (fun h => q h.1))
    by_cases q1 : l.length = 0
    · have e : ((l.length : Int) == 0) = true := by simp [q1]
      rw [e, textN, if_pos ⟨q, q1⟩]
      apply ev_succ; simp only [spec_l8Text.j1, if_true]
      have hP := spec_PieceText_ev 3 b p (⟨#[]⟩ : ByteArray) has (by omega) (by omega) (by omega)
      rw [hsp] at hP
      exact Ev.bind hP (Ev.now _)
    · have e : ((l.length : Int) == 0) = false := beq_eq_false_iff_ne.mpr (by omega)
      rw [e]
      exact hgood (fun h => q1 h.2)
  apply ev_succ
  simp only [spec_l8Text.f, toList_iff]
  refine ev_ite (fun q => ?_) (fun q => ?_)
  · exact key _ _ (by omega) (by subst q; rw [eqb_self]; rfl)
  · exact key _ _ (by omega) (by rw [eqb_ne q]; rfl)
noncomputable def nodeText (x : S40) : ByteArray := if nodeOk x = true then textN x (⟨#[]⟩ : ByteArray) else (⟨#[]⟩ : ByteArray)
theorem impl_NodeText_ev (x : S40) (hw : wtI x ≤ 1048576) : Ev (fun k => impl_NodeText.f k x.f0 x.f1 x.f2 x.f3) (nodeText x) := by
  unfold impl_NodeText.f nodeText
  refine Ev.bind (impl_NodeOk_ev x hw) (ev_iteB (fun q => ?_) (fun q => ?_))
  · rw [if_pos q]; exact Ev.bind (impl_text_ev x hw _) (Ev.now _)
  · rw [if_neg (by rw [q]; simp)]; exact Ev.now _
theorem spec_NodeText_ev (x : S40) (hw : wtI x ≤ 1048576) : Ev (fun k => spec_NodeText.f k x.f0 x.f1 x.f2 x.f3) (nodeText x) := by
  unfold spec_NodeText.f nodeText
  refine Ev.bind (spec_NodeOk_ev x hw) (ev_iteB (fun q => ?_) (fun q => ?_))
  · rw [if_pos q]; exact Ev.bind (spec_text_ev x hw _) (Ev.now _)
  · rw [if_neg (by rw [q]; simp)]; exact Ev.now _

theorem FnExactNodeText : laws_FnExactNodeText.Pure := by
  intro a b c l h0 h1 h2 h3
  apply Ev.rounds
  unfold laws_FnExactNodeText.f
  refine Ev.bind (szN_ev ⟨a, b, c, l⟩ (argN h0 h1 h2 h3) 1048576 (by omega) (by omega)) (ev_ite (fun _ => Ev.now _) (fun q => ?_))
  obtain ⟨hw, he⟩ := szV_ok q
  have t1 := toN_ev ⟨a, b, c, l⟩ (by omega)
  have l1 := wtI_to ⟨a, b, c, l⟩
  have l2 := lenN_le (toN ⟨a, b, c, l⟩)
  refine Ev.bind t1 (Ev.bind (spec_NodeText_ev _ (by omega)) (Ev.bind t1 (Ev.bind (impl_NodeText_ev _ (by omega)) ?_)))
  simp only [if_true]
  refine Ev.bind t1 (Ev.bind (eqN_ev (toN ⟨a, b, c, l⟩) (by omega)) ?_)
  simpa using Ev.now true

end Go.Proofs.Ytgfpiijpgpkoiaa.Pure
