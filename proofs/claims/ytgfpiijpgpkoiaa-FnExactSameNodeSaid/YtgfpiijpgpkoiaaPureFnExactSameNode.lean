/- The program's SameNode answers as the reference's does, for every two trees; no condition. -/
import Derived.Test.YtgfpiijpgpkoiaaGFnExactSameNodex5
import Derived.Test.YtgfpiijpgpkoiaaBase
namespace Go.Proofs.Ytgfpiijpgpkoiaa.Pure
open Go.RowKit Go.Proofs.Ytgfpiijpgpkoiaa.GFnExactSameNode Go.Proofs.Ytgfpiijpgpkoiaa.Base Go.Proofs.YtgfpiijpgpkoiaaW.PrintWords Go.Proofs.YtgfpiijpgpkoiaaW.PrintLast
set_option linter.unusedVariables false
set_option linter.unusedSimpArgs false

/-! what holds of all great numbers of rounds, of two kinds at once: the outer's (K) and the inner's (j) -/
def Ev2 {α : Type} (g : Nat → Nat → Option α) (r : α) : Prop := ∃ M, ∀ K j, M ≤ K → M ≤ j → g K j = some r
theorem Ev2.now {α : Type} (r : α) : Ev2 (fun _ _ => some r) r := ⟨0, fun _ _ _ _ => rfl⟩
theorem Ev2.succ {α : Type} {g : Nat → Nat → Option α} {r : α} (h : Ev2 (fun K j => g K (j + 1)) r) : Ev2 g r := by
  obtain ⟨M, h⟩ := h
  refine ⟨M + 1, fun K j hK hj => ?_⟩
  obtain ⟨j, rfl⟩ : ∃ m, j = m + 1 := ⟨j - 1, by omega⟩
  exact h K j (by omega) (by omega)
theorem Ev2.bind {α β : Type} {f : Nat → Option β} {x : β} {h : Nat → Nat → β → Option α} {r : α} (hf : Ev f x) (hh : Ev2 (fun K j => h K j x) r) : Ev2 (fun K j => (f K).bind (h K j)) r := by
  obtain ⟨M, hf⟩ := hf
  obtain ⟨N, hh⟩ := hh
  refine ⟨M + N, fun K j hK hj => ?_⟩
  show (f K).bind (h K j) = some r
  rw [hf K (by omega)]
  exact hh K j (by omega) (by omega)
theorem Ev2.diag {α : Type} {g : Nat → Nat → Option α} {r : α} (h : Ev2 g r) : Ev (fun k => g k k) r := by
  obtain ⟨M, h⟩ := h
  exact ⟨M, fun k hk => h k k hk hk⟩
theorem ev2_ite {α : Type} {c : Prop} [Decidable c] {a b : Nat → Nat → Option α} {r : α} (h : c → Ev2 a r) (k : ¬ c → Ev2 b r) : Ev2 (fun K j => if c then a K j else b K j) r := by
  by_cases hc : c
  · simpa only [if_pos hc] using h hc
  · simpa only [if_neg hc] using k hc
theorem fill_ind {β γ : Type} (l : List β) (f : β → γ) (z : γ) (E : Nat → List γ → Prop) (hn : E l.length (l.map f))
    (hs : ∀ i x c, i < l.length → x.length = l.length → (∀ d, l.getD (i : Int).toNat d = c) → l[i]? = some c → E (i + 1) (x.set (i : Int).toNat (f c)) → E i x) : E 0 (List.replicate l.length z) := by
  have key : ∀ n i, l.length - i ≤ n → i ≤ l.length → E i ((l.map f).take i ++ List.replicate (l.length - i) z) := by
    intro n
    induction n with
    | zero =>
      intro i hi hle
      have h0 : i = l.length := by omega
      subst h0
      simpa [List.take_of_length_le] using hn
    | succ n ih =>
      intro i hi hle
      rcases Nat.lt_or_ge i l.length with hlt | hge
      · refine hs i _ l[i] hlt (by simp; omega) (fun d => by rw [Int.toNat_natCast, List.getD_eq_getElem?_getD, List.getElem?_eq_getElem hlt]; rfl) (List.getElem?_eq_getElem hlt) ?_
        have e : ((l.map f).take i ++ List.replicate (l.length - i) z).set (i : Int).toNat (f l[i]) = (l.map f).take (i + 1) ++ List.replicate (l.length - (i + 1)) z := by
          rw [Int.toNat_natCast, List.set_append_right _ _ (by simp; omega)]
          have h1 : i - ((l.map f).take i).length = 0 := by simp; omega
          have h2 : l.length - i = (l.length - (i + 1)) + 1 := by omega
          rw [h1, h2, List.replicate_succ, List.set_cons_zero, List.take_succ_eq_append_getElem (by simpa using hlt)]
          simp
        rw [e]; exact ih (i + 1) (by omega) hlt
      · have h0 : i = l.length := by omega
        subst h0
        simpa [List.take_of_length_le] using hn
  have := key _ 0 (Nat.le_refl _) (Nat.zero_le _)
  simpa using this

/-! trees: their weights, their copies -/
mutual
def wtN : S35 → Nat
  | ⟨a, b, c, l⟩ => a.size + b.size + c.size + l.length + wtL l
def wtL : List S35 → Nat
  | [] => 0
  | x :: r => wtN x + wtL r
end
mutual
def toN : S35 → S40
  | ⟨a, b, c, l⟩ => ⟨a, b, c, toL l⟩
def toL : List S35 → List S40
  | [] => []
  | x :: r => toN x :: toL r
end
mutual
def lenN : S40 → Nat
  | ⟨_, _, _, l⟩ => l.length + lenL l
def lenL : List S40 → Nat
  | [] => 0
  | x :: r => lenN x + lenL r
end
theorem node_ind {P : S35 → Prop} (h : ∀ a b c l, (∀ x ∈ l, P x) → P ⟨a, b, c, l⟩) : ∀ x, P x := by
  have key : ∀ n (x : S35), SizeOf.sizeOf x ≤ n → P x := by
    intro n
    induction n with
    | zero => intro x hx; cases x; simp at hx
    | succ n ih =>
      rintro ⟨a, b, c, l⟩ hx
      refine h a b c l (fun y hy => ih y ?_)
      have := List.sizeOf_lt_of_mem hy
      simp at hx
      omega
  exact fun x => key _ x (Nat.le_refl _)
theorem nodeI_ind {P : S40 → Prop} (h : ∀ a b c l, (∀ x ∈ l, P x) → P ⟨a, b, c, l⟩) : ∀ x, P x := by
  have key : ∀ n (x : S40), SizeOf.sizeOf x ≤ n → P x := by
    intro n
    induction n with
    | zero => intro x hx; cases x; simp at hx
    | succ n ih =>
      rintro ⟨a, b, c, l⟩ hx
      refine h a b c l (fun y hy => ih y ?_)
      have := List.sizeOf_lt_of_mem hy
      simp at hx
      omega
  exact fun x => key _ x (Nat.le_refl _)
theorem toL_map : ∀ l, toL l = l.map toN
  | [] => rfl
  | x :: r => by rw [toL, toL_map r]; rfl
theorem wtL_mem : ∀ {l : List S35} {x}, x ∈ l → wtN x ≤ wtL l
  | y :: r, x, h => by
    rw [wtL]
    rcases List.mem_cons.1 h with rfl | h
    · omega
    · have := wtL_mem h; omega
theorem lenL_mem : ∀ {l : List S40} {x}, x ∈ l → lenN x ≤ lenL l
  | y :: r, x, h => by
    rw [lenL]
    rcases List.mem_cons.1 h with rfl | h
    · omega
    · have := lenL_mem h; omega
theorem lenL_to : ∀ l : List S35, (∀ x ∈ l, lenN (toN x) ≤ wtN x) → lenL (toL l) ≤ wtL l
  | [], _ => Nat.le_refl _
  | x :: r, h => by
    rw [toL, lenL, wtL]
    have h1 := h x (by simp)
    have h2 := lenL_to r (fun y hy => h y (by simp [hy]))
    omega
theorem lenN_to : ∀ x, lenN (toN x) ≤ wtN x := by
  apply node_ind
  intro a b c l ih
  rw [toN, lenN, wtN]
  have h1 := lenL_to l ih
  have h2 : (toL l).length = l.length := by rw [toL_map, List.length_map]
  omega
/-- what is left of a measure; -1: nothing -/
def szV (left : Int) (n : Nat) : Int := if (n : Int) ≤ left then left - n else -1
theorem szV_ok {left : Int} {n : Nat} (h : ¬ szV left n < 0) : (n : Int) ≤ left ∧ szV left n = left - n := by
  unfold szV at h ⊢
  by_cases q : (n : Int) ≤ left
  · rw [if_pos q]; exact ⟨q, rfl⟩
  · rw [if_neg q] at h; omega
theorem szNs_ev (L : List S35) (hL : L.length ≤ 1048576)
    (hA : ∀ x ∈ L, ∀ left : Int, 0 ≤ left → left ≤ 1048576 → Ev (fun k => laws_szNode.f k x.f0 x.f1 x.f2 x.f3 left) (szV left (wtN x))) :
    ∀ (l : List S35) (i : Nat) (left : Int), L.drop i = l → 0 ≤ left → left ≤ 1048576 → Ev2 (fun K j => laws_szNodeS.l0 (fun _ => laws_szNode.f K) j L left (i : Int)) (szV left (wtL l))
  | [], i, left, h, h0, h1 => by
    have := List.drop_eq_nil_iff.1 h
    apply Ev2.succ
    simp only [laws_szNodeS.l0, if_neg (show ¬ (i : Int) < (L.length : Int) by omega), wtL]
    rw [show szV left 0 = left from by unfold szV; rw [if_pos (by omega)]; omega]
    exact Ev2.now left
  | x :: r, i, left, h, h0, h1 => by
    obtain ⟨hb, hi, hd, hg⟩ := l_drop h
    have hrd : rd_T35 L (i : Int) = x := hb _
    apply Ev2.succ
    simp only [laws_szNodeS.l0, if_pos (show (i : Int) < (L.length : Int) by omega), if_pos (show (0 : Int) ≤ (i : Int) by omega), hrd, wrap_id (x := (i : Int) + 1) (by omega) (by omega)]
    refine Ev2.bind (hA x (List.mem_of_getElem? hg) left h0 h1) (ev2_ite (fun q => ?_) (fun q => ?_))
    · have : szV left (wtL (x :: r)) = -1 := by
        unfold szV at q ⊢
        rw [wtL]
        by_cases q2 : ((wtN x : Nat) : Int) ≤ left
        · rw [if_pos q2] at q; omega
        · rw [if_neg (by omega)]
      rw [this]; exact Ev2.now _
    · obtain ⟨hle, he⟩ := szV_ok q
      have ih := szNs_ev L hL hA r (i + 1) (left - wtN x) hd (by omega) (by omega)
      rw [he]
      have e : szV (left - wtN x) (wtL r) = szV left (wtL (x :: r)) := by
        unfold szV
        rw [wtL]
        by_cases q2 : ((wtL r : Nat) : Int) ≤ left - wtN x
        · rw [if_pos q2, if_pos (by omega)]; omega
        · rw [if_neg q2, if_neg (by omega)]
      rw [← e]
      exact ih
theorem szN_ev : ∀ x : S35, (∀ n, B35 n x) → ∀ left : Int, 0 ≤ left → left ≤ 1048576 → Ev (fun k => laws_szNode.f k x.f0 x.f1 x.f2 x.f3 left) (szV left (wtN x)) := by
  apply node_ind
  intro a b c l ih hB left h0 h1
  have ha : a.size ≤ 9223372036854775807 := (hB 1).1
  have hb : b.size ≤ 9223372036854775807 := (hB 1).2.1
  have hc : c.size ≤ 9223372036854775807 := (hB 1).2.2.1
  have hl : l.length ≤ 9223372036854775807 := (hB 1).2.2.2.1
  have hk : ∀ x ∈ l, ∀ n, B35 n x := fun x hx n => (hB (n + 1)).2.2.2.2 x hx
  have e0 : ∀ n : Nat, ¬ ((n : Int) ≤ left) → szV left n = -1 := fun n h => by unfold szV; rw [if_neg h]
  apply ev_succ
  simp only [laws_szNode.f, wrap_id (x := left - (a.size : Int)) (by omega) (by omega)]
  refine ev_ite (fun q => ?_) (fun q => ?_)
  · rw [e0 _ (by rw [wtN]; omega)]; exact Ev.now _
  simp only [wrap_id (x := left - (a.size : Int) - (b.size : Int)) (by omega) (by omega)]
  refine ev_ite (fun q1 => ?_) (fun q1 => ?_)
  · rw [e0 _ (by rw [wtN]; omega)]; exact Ev.now _
  simp only [wrap_id (x := left - (a.size : Int) - (b.size : Int) - (c.size : Int)) (by omega) (by omega)]
  refine ev_ite (fun q2 => ?_) (fun q2 => ?_)
  · rw [e0 _ (by rw [wtN]; omega)]; exact Ev.now _
  have hS : Ev (fun k => laws_szNodeS.f (fun _ => laws_szNode.f k) k l (left - (a.size : Int) - (b.size : Int) - (c.size : Int))) (szV (left - (a.size : Int) - (b.size : Int) - (c.size : Int)) (l.length + wtL l)) := by
    unfold laws_szNodeS.f
    simp only [wrap_id (x := left - (a.size : Int) - (b.size : Int) - (c.size : Int) - (l.length : Int)) (by omega) (by omega)]
    refine ev_ite (fun q3 => ?_) (fun q3 => ?_)
    · rw [show szV _ _ = -1 from by unfold szV; rw [if_neg (by omega)]]; exact Ev.now _
    · have := Ev2.diag (szNs_ev l (by omega) (fun x hx => ih x hx (hk x hx)) l 0 (left - (a.size : Int) - (b.size : Int) - (c.size : Int) - (l.length : Int)) rfl (by omega) (by omega))
      have e : szV (left - (a.size : Int) - (b.size : Int) - (c.size : Int) - (l.length : Int)) (wtL l) = szV (left - (a.size : Int) - (b.size : Int) - (c.size : Int)) (l.length + wtL l) := by
        unfold szV
        by_cases q4 : ((wtL l : Nat) : Int) ≤ left - (a.size : Int) - (b.size : Int) - (c.size : Int) - (l.length : Int)
        · rw [if_pos q4, if_pos (by omega)]; omega
        · rw [if_neg q4, if_neg (by omega)]
      rw [← e]; exact this
  refine Ev.bind hS ?_
  have e : szV left (wtN ⟨a, b, c, l⟩) = szV (left - (a.size : Int) - (b.size : Int) - (c.size : Int)) (l.length + wtL l) := by
    unfold szV
    rw [wtN]
    by_cases q4 : ((a.size + b.size + c.size + l.length + wtL l : Nat) : Int) ≤ left
    · rw [if_pos q4, if_pos (by omega)]; omega
    · rw [if_neg q4, if_neg (by omega)]
  rw [← e]
  refine ev_ite (fun q5 => ?_) (fun q5 => Ev.now _)
  have : szV left (wtN ⟨a, b, c, l⟩) = -1 := by
    unfold szV at q5 ⊢
    by_cases q6 : ((wtN ⟨a, b, c, l⟩ : Nat) : Int) ≤ left
    · rw [if_pos q6] at q5; omega
    · rw [if_neg q6]
  rw [this]; exact Ev.now _
def tup (x : S40) : ByteArray × ByteArray × ByteArray × List S40 := (x.f0, x.f1, x.f2, x.f3)
theorem toN_ev : ∀ x : S35, wtN x ≤ 1048576 → Ev (fun k => laws_toNode.f k x.f0 x.f1 x.f2 x.f3) (tup (toN x)) := by
  apply node_ind
  intro a b c l ih hw
  rw [wtN] at hw
  apply ev_succ
  simp only [laws_toNode.f]
  have hS : Ev (fun k => laws_toNodeS.f (fun _ => laws_toNode.f k) k l) (toL l) := by
    unfold laws_toNodeS.f
    simp only [if_pos (show (0 : Int) ≤ (l.length : Int) by omega), Int.toNat_natCast, if_pos (show l.length ≤ 3909374676536 by omega)]
    apply Ev2.diag (g := fun K j => laws_toNodeS.l0 (fun _ => laws_toNode.f K) j l 0 (List.replicate l.length z40))
    rw [toL_map]
    refine fill_ind l toN z40 (fun i x => Ev2 (fun K j => laws_toNodeS.l0 (fun _ => laws_toNode.f K) j l (i : Int) x) (l.map toN)) ?_ ?_
    · apply Ev2.succ
      simp only [laws_toNodeS.l0, if_neg (show ¬ ((l.length : Nat) : Int) < (l.length : Int) by omega)]
      exact Ev2.now _
    · intro i x y hi hx hb hg hE
      have hrd : rd_T35 l (i : Int) = y := hb _
      have hy := List.mem_of_getElem? hg
      have := wtL_mem hy
      apply Ev2.succ
      simp only [laws_toNodeS.l0, if_pos (show (i : Int) < (l.length : Int) by omega), if_pos (show (0 : Int) ≤ (i : Int) by omega), hrd, wrap_id (x := (i : Int) + 1) (by omega) (by omega), if_pos (show (i : Int) < (x.length : Int) by omega)]
      refine Ev2.bind (ih y hy (by omega)) ?_
      have e1 : (⟨(tup (toN y)).1, (tup (toN y)).2.1, (tup (toN y)).2.2.1, (tup (toN y)).2.2.2⟩ : S40) = toN y := by unfold tup; cases toN y; rfl
      rw [e1]
      exact hE
  exact Ev.bind hS (by rw [toN]; exact Ev.now _)
theorem eqNs_ev (L : List S40) (hL : L.length ≤ 1048576) (hA : ∀ x ∈ L, Ev (fun k => laws_eqNode.f k x.f0 x.f1 x.f2 x.f3 x.f0 x.f1 x.f2 x.f3) true) :
    ∀ (l : List S40) (i : Nat), L.drop i = l → Ev2 (fun K j => laws_eqNodeS.l0 (fun _ => laws_eqNode.f K) j L L (i : Int)) true
  | [], i, h => by
    have := List.drop_eq_nil_iff.1 h
    apply Ev2.succ
    simp only [laws_eqNodeS.l0, if_neg (show ¬ (i : Int) < (L.length : Int) by omega)]
    exact Ev2.now _
  | x :: r, i, h => by
    obtain ⟨hb, hi, hd, hg⟩ := l_drop h
    have hrd : rd_T40 L (i : Int) = x := hb _
    apply Ev2.succ
    simp only [laws_eqNodeS.l0, if_pos (show (i : Int) < (L.length : Int) by omega), if_pos (show (0 : Int) ≤ (i : Int) by omega), hrd, wrap_id (x := (i : Int) + 1) (by omega) (by omega)]
    refine Ev2.bind (hA x (List.mem_of_getElem? hg)) ?_
    simpa using eqNs_ev L hL hA r (i + 1) hd
theorem eqN_ev : ∀ x : S40, lenN x ≤ 1048576 → Ev (fun k => laws_eqNode.f k x.f0 x.f1 x.f2 x.f3 x.f0 x.f1 x.f2 x.f3) true := by
  apply nodeI_ind
  intro a b c l ih hw
  rw [lenN] at hw
  apply ev_succ
  simp only [laws_eqNode.f, if_true]
  have hS : Ev (fun k => laws_eqNodeS.f (fun _ => laws_eqNode.f k) k l l) true := by
    unfold laws_eqNodeS.f
    simp only [if_true]
    exact Ev2.diag (eqNs_ev l (by omega) (fun x hx => ih x hx (by have := lenL_mem hx; omega)) l 0 rfl)
  exact Ev.bind hS (by simpa using Ev.now true)

mutual
def sameN : S40 → S40 → Bool
  | ⟨a, b, c, l⟩, ⟨a', b', c', l'⟩ => decide (a = a') && (decide (b = b') && (decide (c = c') && (decide (l.length = l'.length) && sameL l l')))
def sameL : List S40 → List S40 → Bool
  | x :: r, y :: r' => sameN x y && sameL r r'
  | _, _ => true
end
theorem same_loop (g : Nat → Nat → Option Bool) (A : S40 → S40 → Nat → Option Bool) (L L' : List S40) (hl : L.length = L'.length) (hL : L.length ≤ 1048576)
    (hn : ∀ i, L.length ≤ i → Ev (g i) true)
    (hs : ∀ i x y, i < L.length → rd_T40 L (i : Int) = x → rd_T40 L' (i : Int) = y → ∀ r, Ev (A x y) (sameN x y) → (sameN x y = true → Ev (g (i + 1)) r) → (sameN x y = false → r = false) → Ev (g i) r)
    (hA : ∀ x ∈ L, ∀ y, Ev (A x y) (sameN x y)) :
    ∀ (l l' : List S40) (i : Nat), L.drop i = l → L'.drop i = l' → Ev (g i) (sameL l l')
  | [], l', i, h, h' => by
    have := List.drop_eq_nil_iff.1 h
    rw [sameL]
    · exact hn i this
    · rintro _ _ _ _ ⟨⟩
  | x :: r, [], i, h, h' => by
    have := List.drop_eq_nil_iff.1 h'
    obtain ⟨_, hi, _, _⟩ := l_drop h
    omega
  | x :: r, y :: r', i, h, h' => by
    obtain ⟨hb, hi, hd, hg⟩ := l_drop h
    obtain ⟨hb', hi', hd', hg'⟩ := l_drop h'
    rw [sameL]
    refine hs i x y hi (hb _) (hb' _) _ (hA x (List.mem_of_getElem? hg) y) (fun e => ?_) (fun e => by rw [e]; rfl)
    rw [e, Bool.true_and]
    exact same_loop g A L L' hl hL hn hs hA r r' (i + 1) hd hd'
theorem impl_SameNode_ev : ∀ x : S40, lenN x ≤ 1048576 → ∀ y : S40, Ev (fun k => impl_SameNode.f k x.f0 x.f1 x.f2 x.f3 y.f0 y.f1 y.f2 y.f3) (sameN x y) := by
  apply nodeI_ind
  rintro a b c l ih hw ⟨a', b', c', l'⟩
  rw [lenN] at hw
  rw [sameN]
  apply ev_succ
  simp only [impl_SameNode.f, toList_iff]
  have hf : Ev (fun k => impl_SameNode.j0 k true a b c l a' b' c' l') false := by
    apply ev_succ; simp only [impl_SameNode.j0, if_true]; exact Ev.now _
  refine ev_ite (fun q => ?_) (fun q => by simpa [q] using hf)
  refine ev_ite (fun q1 => ?_) (fun q1 => by simpa [q1] using hf)
  refine ev_ite (fun q2 => ?_) (fun q2 => by simpa [q2] using hf)
  rw [decide_eq_true q, decide_eq_true q1, decide_eq_true q2]
  simp only [Bool.true_and]
  by_cases q3 : l.length = l'.length
  · rw [decide_eq_true q3, Bool.true_and]
    have e : ((l.length : Int) != (l'.length : Int)) = false := by simp [q3]
    rw [e]
    apply ev_succ
    simp only [impl_SameNode.j0, Bool.false_eq_true, if_false]
    refine same_loop (fun i k => impl_SameNode.l0 k (l.length : Int) (i : Int) a b c l a' b' c' l') (fun x y k => impl_SameNode.f k x.f0 x.f1 x.f2 x.f3 y.f0 y.f1 y.f2 y.f3) l l' q3 (by omega) ?_ ?_ (fun x hx => ih x hx (by have := lenL_mem hx; omega)) l l' 0 rfl rfl
    · intro i hi
      apply ev_succ; simp only [impl_SameNode.l0, if_neg (show ¬ (i : Int) < (l.length : Int) by omega)]; exact Ev.now _
    · intro i x y hi hx hy r hA ht hfls
      apply ev_succ
      simp only [impl_SameNode.l0, if_pos (show (i : Int) < (l.length : Int) by omega), if_pos (show (0 : Int) ≤ (i : Int) by omega), if_pos (show (i : Int) < (l'.length : Int) by omega), hx, hy, wrap_id (x := (i : Int) + 1) (by omega) (by omega)]
      refine Ev.bind hA (ev_iteB (fun e => ht e) (fun e => by rw [hfls e]; exact Ev.now _))
  · have e : ((l.length : Int) != (l'.length : Int)) = true := by simp; omega
    rw [e, decide_eq_false q3, Bool.false_and]
    exact hf
theorem spec_SameNode_ev : ∀ x : S40, lenN x ≤ 1048576 → ∀ y : S40, Ev (fun k => spec_SameNode.f k x.f0 x.f1 x.f2 x.f3 y.f0 y.f1 y.f2 y.f3) (sameN x y) := by
  apply nodeI_ind
  rintro a b c l ih hw ⟨a', b', c', l'⟩
  rw [lenN] at hw
  rw [sameN]
  apply ev_succ
  simp only [spec_SameNode.f, toList_iff]
  have hf : Ev (fun k => spec_SameNode.j0 k true a b c l a' b' c' l') false := by
    apply ev_succ; simp only [spec_SameNode.j0, if_true]; exact Ev.now _
  refine ev_ite (fun q => ?_) (fun q => by simpa [q] using hf)
  refine ev_ite (fun q1 => ?_) (fun q1 => by simpa [q1] using hf)
  refine ev_ite (fun q2 => ?_) (fun q2 => by simpa [q2] using hf)
  rw [decide_eq_true q, decide_eq_true q1, decide_eq_true q2]
  simp only [Bool.true_and]
  by_cases q3 : l.length = l'.length
  · rw [decide_eq_true q3, Bool.true_and]
    have e : ((l.length : Int) != (l'.length : Int)) = false := by simp [q3]
    rw [e]
    apply ev_succ
    simp only [spec_SameNode.j0, Bool.false_eq_true, if_false]
    refine same_loop (fun i k => spec_SameNode.l0 k (i : Int) a b c l a' b' c' l') (fun x y k => spec_SameNode.f k x.f0 x.f1 x.f2 x.f3 y.f0 y.f1 y.f2 y.f3) l l' q3 (by omega) ?_ ?_ (fun x hx => ih x hx (by have := lenL_mem hx; omega)) l l' 0 rfl rfl
    · intro i hi
      apply ev_succ; simp only [spec_SameNode.l0, if_neg (show ¬ (i : Int) < (l.length : Int) by omega)]; exact Ev.now _
    · intro i x y hi hx hy r hA ht hfls
      apply ev_succ
      simp only [spec_SameNode.l0, if_pos (show (i : Int) < (l.length : Int) by omega), if_pos (show (0 : Int) ≤ (i : Int) by omega), if_pos (show (i : Int) < (l'.length : Int) by omega), hx, hy, wrap_id (x := (i : Int) + 1) (by omega) (by omega)]
      refine Ev.bind hA (ev_iteB (fun e => ht e) (fun e => by rw [hfls e]; exact Ev.now _))
  · have e : ((l.length : Int) != (l'.length : Int)) = true := by simp; omega
    rw [e, decide_eq_false q3, Bool.false_and]
    exact hf

theorem argN {a b c : ByteArray} {l : List S35} (h0 : a.size ≤ 9223372036854775807) (h1 : b.size ≤ 9223372036854775807) (h2 : c.size ≤ 9223372036854775807) (h3 : l.length ≤ 9223372036854775807 ∧ ∀ x ∈ l, ∀ n_ : Nat, B35 n_ x) : ∀ n, B35 n ⟨a, b, c, l⟩
  | 0 => trivial
  | n + 1 => ⟨h0, h1, h2, h3.1, fun y hy => h3.2 y hy n⟩
theorem FnExactSameNode : laws_FnExactSameNode.Pure := by
  intro a b c l a' b' c' l' h0 h1 h2 h3 h0' h1' h2' h3'
  apply Ev.rounds
  unfold laws_FnExactSameNode.f
  refine Ev.bind (szN_ev ⟨a, b, c, l⟩ (argN h0 h1 h2 h3) 1048576 (by omega) (by omega)) (ev_ite (fun _ => Ev.now _) (fun q => ?_))
  obtain ⟨hw, he⟩ := szV_ok q
  rw [he]
  refine Ev.bind (szN_ev ⟨a', b', c', l'⟩ (argN h0' h1' h2' h3') _ (by omega) (by omega)) (ev_ite (fun _ => Ev.now _) (fun q' => ?_))
  obtain ⟨hw', he'⟩ := szV_ok q'
  have t1 := toN_ev ⟨a, b, c, l⟩ (by omega)
  have t2 := toN_ev ⟨a', b', c', l'⟩ (by omega)
  have l1 := lenN_to ⟨a, b, c, l⟩
  have l2 := lenN_to ⟨a', b', c', l'⟩
  refine Ev.bind t1 (Ev.bind t2 (Ev.bind (spec_SameNode_ev _ (by omega) (toN ⟨a', b', c', l'⟩)) (Ev.bind t1 (Ev.bind t2 (Ev.bind (impl_SameNode_ev _ (by omega) (toN ⟨a', b', c', l'⟩)) ?_)))))
  simp only [bne_self_eq_false, Bool.false_eq_true, if_false]
  refine Ev.bind t1 (Ev.bind (eqN_ev (toN ⟨a, b, c, l⟩) (by omega)) ?_)
  simp only [if_true]
  refine Ev.bind t2 (Ev.bind (eqN_ev (toN ⟨a', b', c', l'⟩) (by omega)) ?_)
  simpa using Ev.now true

end Go.Proofs.Ytgfpiijpgpkoiaa.Pure
