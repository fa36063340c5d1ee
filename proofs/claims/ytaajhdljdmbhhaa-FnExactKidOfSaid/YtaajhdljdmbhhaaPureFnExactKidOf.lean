/- The program's KidOf answers as the reference's does, keeps what it was given and shares no memory, for every tree and name; no condition. -/
import Derived.Test.YtaajhdljdmbhhaaGFnExactKidOfx4
import Derived.Test.YtaajhdljdmbhhaaBase
import Derived.Lib.ItoaNum
namespace Go.Proofs.Ytaajhdljdmbhhaa.Pure
open Go.RowKit Go.Proofs.Ytaajhdljdmbhhaa.GFnExactKidOf Go.Proofs.Ytaajhdljdmbhhaa.Base Go.Proofs.YtaajhdljdmbhhaaW.PrintWords Go.Proofs.YtaajhdljdmbhhaaW.PrintLast
set_option linter.unusedVariables false
set_option linter.unusedSimpArgs false


/-! what holds of all great numbers of rounds, of two kinds at once: the outer's (K) and the inner's (j) -/
def Ev2 {α : Type} (g : Nat → Nat → Option α) (r : α) : Prop := ∃ M, ∀ K j, M ≤ K → M ≤ j → g K j = some r
theorem Ev2.now {α : Type} (r : α) : Ev2 (fun _ _ => some r) r := ⟨0, fun _ _ _ _ => rfl⟩
theorem Ev2.succ {α : Type} {g : Nat → Nat → Option α} {r : α} (h : Ev2 (fun K j => g K (j + 1)) r) : Ev2 g r := by
  obtain ⟨M, h⟩ := h
  refine ⟨M + 1, fun K j hK hj => ?_⟩
  obtain ⟨j, rfl⟩ : ∃ m, j = m + 1 := ⟨j - 1, by omega⟩
  exact h K j (by omega) (by omega)
theorem Ev2.bind {α β : Type} {f : Nat → Option β} {x : β} {h : Nat → Nat → β → Option α} {r : α} (hf : Ev f x) (hh : Ev2 (fun K j => h K j x) r) : Ev2 (fun K j => (f K).bind (h K j)) r := by
  obtain ⟨M, hf⟩ := hf
  obtain ⟨N, hh⟩ := hh
  refine ⟨M + N, fun K j hK hj => ?_⟩
  show (f K).bind (h K j) = some r
  rw [hf K (by omega)]
  exact hh K j (by omega) (by omega)
theorem Ev2.diag {α : Type} {g : Nat → Nat → Option α} {r : α} (h : Ev2 g r) : Ev (fun k => g k k) r := by
  obtain ⟨M, h⟩ := h
  exact ⟨M, fun k hk => h k k hk hk⟩
theorem ev2_ite {α : Type} {c : Prop} [Decidable c] {a b : Nat → Nat → Option α} {r : α} (h : c → Ev2 a r) (k : ¬ c → Ev2 b r) : Ev2 (fun K j => if c then a K j else b K j) r := by
  by_cases hc : c
  · simpa only [if_pos hc] using h hc
  · simpa only [if_neg hc] using k hc
theorem fill_ind {β γ : Type} (l : List β) (f : β → γ) (z : γ) (E : Nat → List γ → Prop) (hn : E l.length (l.map f))
    (hs : ∀ i x c, i < l.length → x.length = l.length → (∀ d, l.getD (i : Int).toNat d = c) → l[i]? = some c → E (i + 1) (x.set (i : Int).toNat (f c)) → E i x) : E 0 (List.replicate l.length z) := by
  have key : ∀ n i, l.length - i ≤ n → i ≤ l.length → E i ((l.map f).take i ++ List.replicate (l.length - i) z) := by
    intro n
    induction n with
    | zero =>
      intro i hi hle
      have h0 : i = l.length := by omega
      subst h0
      simpa [List.take_of_length_le] using hn
    | succ n ih =>
      intro i hi hle
      rcases Nat.lt_or_ge i l.length with hlt | hge
      · refine hs i _ l[i] hlt (by simp; omega) (fun d => by rw [Int.toNat_natCast, List.getD_eq_getElem?_getD, List.getElem?_eq_getElem hlt]; rfl) (List.getElem?_eq_getElem hlt) ?_
        have e : ((l.map f).take i ++ List.replicate (l.length - i) z).set (i : Int).toNat (f l[i]) = (l.map f).take (i + 1) ++ List.replicate (l.length - (i + 1)) z := by
          rw [Int.toNat_natCast, List.set_append_right _ _ (by simp; omega)]
          have h1 : i - ((l.map f).take i).length = 0 := by simp; omega
          have h2 : l.length - i = (l.length - (i + 1)) + 1 := by omega
          rw [h1, h2, List.replicate_succ, List.set_cons_zero, List.take_succ_eq_append_getElem (by simpa using hlt)]
          simp
        rw [e]; exact ih (i + 1) (by omega) hlt
      · have h0 : i = l.length := by omega
        subst h0
        simpa [List.take_of_length_le] using hn
  have := key _ 0 (Nat.le_refl _) (Nat.zero_le _)
  simpa using this

/-! trees: their weights, their copies -/
mutual
def wtN : S24 → Nat
  | ⟨a, b, c, l⟩ => a.size + b.size + c.size + l.length + wtL l
def wtL : List S24 → Nat
  | [] => 0
  | x :: r => wtN x + wtL r
end
mutual
def toN : S24 → S28
  | ⟨a, b, c, l⟩ => ⟨a, b, c, toL l⟩
def toL : List S24 → List S28
  | [] => []
  | x :: r => toN x :: toL r
end
mutual
def lenN : S28 → Nat
  | ⟨_, _, _, l⟩ => l.length + lenL l
def lenL : List S28 → Nat
  | [] => 0
  | x :: r => lenN x + lenL r
end
theorem node_ind {P : S24 → Prop} (h : ∀ a b c l, (∀ x ∈ l, P x) → P ⟨a, b, c, l⟩) : ∀ x, P x := by
  have key : ∀ n (x : S24), SizeOf.sizeOf x ≤ n → P x := by
    intro n
    induction n with
    | zero => intro x hx; cases x; simp at hx
    | succ n ih =>
      rintro ⟨a, b, c, l⟩ hx
      refine h a b c l (fun y hy => ih y ?_)
      have := List.sizeOf_lt_of_mem hy
      simp at hx
      omega
  exact fun x => key _ x (Nat.le_refl _)
theorem nodeI_ind {P : S28 → Prop} (h : ∀ a b c l, (∀ x ∈ l, P x) → P ⟨a, b, c, l⟩) : ∀ x, P x := by
  have key : ∀ n (x : S28), SizeOf.sizeOf x ≤ n → P x := by
    intro n
    induction n with
    | zero => intro x hx; cases x; simp at hx
    | succ n ih =>
      rintro ⟨a, b, c, l⟩ hx
      refine h a b c l (fun y hy => ih y ?_)
      have := List.sizeOf_lt_of_mem hy
      simp at hx
      omega
  exact fun x => key _ x (Nat.le_refl _)
theorem toL_map : ∀ l, toL l = l.map toN
  | [] => rfl
  | x :: r => by rw [toL, toL_map r]; rfl
theorem wtL_mem : ∀ {l : List S24} {x}, x ∈ l → wtN x ≤ wtL l
  | y :: r, x, h => by
    rw [wtL]
    rcases List.mem_cons.1 h with rfl | h
    · omega
    · have := wtL_mem h; omega
theorem lenL_mem : ∀ {l : List S28} {x}, x ∈ l → lenN x ≤ lenL l
  | y :: r, x, h => by
    rw [lenL]
    rcases List.mem_cons.1 h with rfl | h
    · omega
    · have := lenL_mem h; omega
theorem lenL_to : ∀ l : List S24, (∀ x ∈ l, lenN (toN x) ≤ wtN x) → lenL (toL l) ≤ wtL l
  | [], _ => Nat.le_refl _
  | x :: r, h => by
    rw [toL, lenL, wtL]
    have h1 := h x (by simp)
    have h2 := lenL_to r (fun y hy => h y (by simp [hy]))
    omega
theorem lenN_to : ∀ x, lenN (toN x) ≤ wtN x := by
  apply node_ind
  intro a b c l ih
  rw [toN, lenN, wtN]
  have h1 := lenL_to l ih
  have h2 : (toL l).length = l.length := by rw [toL_map, List.length_map]
  omega
/-- what is left of a measure; -1: nothing -/
def szV (left : Int) (n : Nat) : Int := if (n : Int) ≤ left then left - n else -1
theorem szV_ok {left : Int} {n : Nat} (h : ¬ szV left n < 0) : (n : Int) ≤ left ∧ szV left n = left - n := by
  unfold szV at h ⊢
  by_cases q : (n : Int) ≤ left
  · rw [if_pos q]; exact ⟨q, rfl⟩
  · rw [if_neg q] at h; omega
theorem szNs_ev (L : List S24) (hL : L.length ≤ 1048576)
    (hA : ∀ x ∈ L, ∀ left : Int, 0 ≤ left → left ≤ 1048576 → Ev (fun k => laws_szNode.f k x.f0 x.f1 x.f2 x.f3 left) (szV left (wtN x))) :
    ∀ (l : List S24) (i : Nat) (left : Int), L.drop i = l → 0 ≤ left → left ≤ 1048576 → Ev2 (fun K j => laws_szNodeS.l0 (fun _ => laws_szNode.f K) j L left (i : Int)) (szV left (wtL l))
  | [], i, left, h, h0, h1 => by
    have := List.drop_eq_nil_iff.1 h
    apply Ev2.succ
    simp only [laws_szNodeS.l0, if_neg (show ¬ (i : Int) < (L.length : Int) by omega), wtL]
    rw [show szV left 0 = left from by unfold szV; rw [if_pos (by omega)]; omega]
    exact Ev2.now left
  | x :: r, i, left, h, h0, h1 => by
    obtain ⟨hb, hi, hd, hg⟩ := l_drop h
    have hrd : rd_T24 L (i : Int) = x := hb _
    apply Ev2.succ
    simp only [laws_szNodeS.l0, if_pos (show (i : Int) < (L.length : Int) by omega), if_pos (show (0 : Int) ≤ (i : Int) by omega), hrd, wrap_id (x := (i : Int) + 1) (by omega) (by omega)]
    refine Ev2.bind (hA x (List.mem_of_getElem? hg) left h0 h1) (ev2_ite (fun q => ?_) (fun q => ?_))
    · have : szV left (wtL (x :: r)) = -1 := by
        unfold szV at q ⊢
        rw [wtL]
        by_cases q2 : ((wtN x : Nat) : Int) ≤ left
        · rw [if_pos q2] at q; omega
        · rw [if_neg (by omega)]
      rw [this]; exact Ev2.now _
    · obtain ⟨hle, he⟩ := szV_ok q
      have ih := szNs_ev L hL hA r (i + 1) (left - wtN x) hd (by omega) (by omega)
      rw [he]
      have e : szV (left - wtN x) (wtL r) = szV left (wtL (x :: r)) := by
        unfold szV
        rw [wtL]
        by_cases q2 : ((wtL r : Nat) : Int) ≤ left - wtN x
        · rw [if_pos q2, if_pos (by omega)]; omega
        · rw [if_neg q2, if_neg (by omega)]
      rw [← e]
      exact ih
theorem szN_ev : ∀ x : S24, (∀ n, B24 n x) → ∀ left : Int, 0 ≤ left → left ≤ 1048576 → Ev (fun k => laws_szNode.f k x.f0 x.f1 x.f2 x.f3 left) (szV left (wtN x)) := by
  apply node_ind
  intro a b c l ih hB left h0 h1
  have ha : a.size ≤ 9223372036854775807 := (hB 1).1
  have hb : b.size ≤ 9223372036854775807 := (hB 1).2.1
  have hc : c.size ≤ 9223372036854775807 := (hB 1).2.2.1
  have hl : l.length ≤ 9223372036854775807 := (hB 1).2.2.2.1
  have hk : ∀ x ∈ l, ∀ n, B24 n x := fun x hx n => (hB (n + 1)).2.2.2.2 x hx
  have e0 : ∀ n : Nat, ¬ ((n : Int) ≤ left) → szV left n = -1 := fun n h => by unfold szV; rw [if_neg h]
  apply ev_succ
  simp only [laws_szNode.f, wrap_id (x := left - (a.size : Int)) (by omega) (by omega)]
  refine ev_ite (fun q => ?_) (fun q => ?_)
  · rw [e0 _ (by rw [wtN]; omega)]; exact Ev.now _
  simp only [wrap_id (x := left - (a.size : Int) - (b.size : Int)) (by omega) (by omega)]
  refine ev_ite (fun q1 => ?_) (fun q1 => ?_)
  · rw [e0 _ (by rw [wtN]; omega)]; exact Ev.now _
  simp only [wrap_id (x := left - (a.size : Int) - (b.size : Int) - (c.size : Int)) (by omega) (by omega)]
  refine ev_ite (fun q2 => ?_) (fun q2 => ?_)
  · rw [e0 _ (by rw [wtN]; omega)]; exact Ev.now _
  have hS : Ev (fun k => laws_szNodeS.f (fun _ => laws_szNode.f k) k l (left - (a.size : Int) - (b.size : Int) - (c.size : Int))) (szV (left - (a.size : Int) - (b.size : Int) - (c.size : Int)) (l.length + wtL l)) := by
    unfold laws_szNodeS.f
    simp only [wrap_id (x := left - (a.size : Int) - (b.size : Int) - (c.size : Int) - (l.length : Int)) (by omega) (by omega)]
    refine ev_ite (fun q3 => ?_) (fun q3 => ?_)
    · rw [show szV _ _ = -1 from by unfold szV; rw [if_neg (by omega)]]; exact Ev.now _
    · have := Ev2.diag (szNs_ev l (by omega) (fun x hx => ih x hx (hk x hx)) l 0 (left - (a.size : Int) - (b.size : Int) - (c.size : Int) - (l.length : Int)) rfl (by omega) (by omega))
      have e : szV (left - (a.size : Int) - (b.size : Int) - (c.size : Int) - (l.length : Int)) (wtL l) = szV (left - (a.size : Int) - (b.size : Int) - (c.size : Int)) (l.length + wtL l) := by
        unfold szV
        by_cases q4 : ((wtL l : Nat) : Int) ≤ left - (a.size : Int) - (b.size : Int) - (c.size : Int) - (l.length : Int)
        · rw [if_pos q4, if_pos (by omega)]; omega
        · rw [if_neg q4, if_neg (by omega)]
      rw [← e]; exact this
  refine Ev.bind hS ?_
  have e : szV left (wtN ⟨a, b, c, l⟩) = szV (left - (a.size : Int) - (b.size : Int) - (c.size : Int)) (l.length + wtL l) := by
    unfold szV
    rw [wtN]
    by_cases q4 : ((a.size + b.size + c.size + l.length + wtL l : Nat) : Int) ≤ left
    · rw [if_pos q4, if_pos (by omega)]; omega
    · rw [if_neg q4, if_neg (by omega)]
  rw [← e]
  refine ev_ite (fun q5 => ?_) (fun q5 => Ev.now _)
  have : szV left (wtN ⟨a, b, c, l⟩) = -1 := by
    unfold szV at q5 ⊢
    by_cases q6 : ((wtN ⟨a, b, c, l⟩ : Nat) : Int) ≤ left
    · rw [if_pos q6] at q5; omega
    · rw [if_neg q6]
  rw [this]; exact Ev.now _
def tup (x : S28) : ByteArray × ByteArray × ByteArray × List S28 := (x.f0, x.f1, x.f2, x.f3)
theorem toN_ev : ∀ x : S24, wtN x ≤ 1048576 → Ev (fun k => laws_toNode.f k x.f0 x.f1 x.f2 x.f3) (tup (toN x)) := by
  apply node_ind
  intro a b c l ih hw
  rw [wtN] at hw
  apply ev_succ
  simp only [laws_toNode.f]
  have hS : Ev (fun k => laws_toNodeS.f (fun _ => laws_toNode.f k) k l) (toL l) := by
    unfold laws_toNodeS.f
    simp only [if_pos (show (0 : Int) ≤ (l.length : Int) by omega), Int.toNat_natCast, if_pos (show l.length ≤ 3909374676536 by omega)]
    apply Ev2.diag (g := fun K j => laws_toNodeS.l0 (fun _ => laws_toNode.f K) j l (List.replicate l.length z28) 0)
    rw [toL_map]
    refine fill_ind l toN z28 (fun i x => Ev2 (fun K j => laws_toNodeS.l0 (fun _ => laws_toNode.f K) j l x (i : Int)) (l.map toN)) ?_ ?_
    · apply Ev2.succ
      simp only [laws_toNodeS.l0, if_neg (show ¬ ((l.length : Nat) : Int) < (l.length : Int) by omega)]
      exact Ev2.now _
    · intro i x y hi hx hb hg hE
      have hrd : rd_T24 l (i : Int) = y := hb _
      have hy := List.mem_of_getElem? hg
      have := wtL_mem hy
      apply Ev2.succ
      simp only [laws_toNodeS.l0, if_pos (show (i : Int) < (l.length : Int) by omega), if_pos (show (0 : Int) ≤ (i : Int) by omega), hrd, wrap_id (x := (i : Int) + 1) (by omega) (by omega), if_pos (show (i : Int) < (x.length : Int) by omega)]
      refine Ev2.bind (ih y hy (by omega)) ?_
      have e1 : (⟨(tup (toN y)).1, (tup (toN y)).2.1, (tup (toN y)).2.2.1, (tup (toN y)).2.2.2⟩ : S28) = toN y := by unfold tup; cases toN y; rfl
      rw [e1]
      exact hE
  exact Ev.bind hS (by rw [toN]; exact Ev.now _)
theorem eqNs_ev (L : List S28) (hL : L.length ≤ 1048576) (hA : ∀ x ∈ L, Ev (fun k => laws_eqNode.f k x.f0 x.f1 x.f2 x.f3 x.f0 x.f1 x.f2 x.f3) true) :
    ∀ (l : List S28) (i : Nat), L.drop i = l → Ev2 (fun K j => laws_eqNodeS.l0 (fun _ => laws_eqNode.f K) j L L (i : Int)) true
  | [], i, h => by
    have := List.drop_eq_nil_iff.1 h
    apply Ev2.succ
    simp only [laws_eqNodeS.l0, if_neg (show ¬ (i : Int) < (L.length : Int) by omega)]
    exact Ev2.now _
  | x :: r, i, h => by
    obtain ⟨hb, hi, hd, hg⟩ := l_drop h
    have hrd : rd_T28 L (i : Int) = x := hb _
    apply Ev2.succ
    simp only [laws_eqNodeS.l0, if_pos (show (i : Int) < (L.length : Int) by omega), if_pos (show (0 : Int) ≤ (i : Int) by omega), hrd, wrap_id (x := (i : Int) + 1) (by omega) (by omega)]
    refine Ev2.bind (hA x (List.mem_of_getElem? hg)) ?_
    simpa using eqNs_ev L hL hA r (i + 1) hd
theorem eqN_ev : ∀ x : S28, lenN x ≤ 1048576 → Ev (fun k => laws_eqNode.f k x.f0 x.f1 x.f2 x.f3 x.f0 x.f1 x.f2 x.f3) true := by
  apply nodeI_ind
  intro a b c l ih hw
  rw [lenN] at hw
  apply ev_succ
  simp only [laws_eqNode.f, if_true]
  have hS : Ev (fun k => laws_eqNodeS.f (fun _ => laws_eqNode.f k) k l l) true := by
    unfold laws_eqNodeS.f
    simp only [if_true]
    exact Ev2.diag (eqNs_ev l (by omega) (fun x hx => ih x hx (by have := lenL_mem hx; omega)) l 0 rfl)
  exact Ev.bind hS (by simpa using Ev.now true)

/-- one digit in front -/
theorem digit_byte (u : Nat) (hu : u ≤ 9223372036854775807) : wrap64 (48 + Int.tmod (u : Int) 10) % 256 = 48 + ((u % 10 : Nat) : Int) := by
  have e : Int.tmod (u : Int) 10 = ((u % 10 : Nat) : Int) := by rw [Int.tmod_eq_emod_of_nonneg (by omega)]; omega
  rw [e, wrap_id (by omega) (by omega)]
  omega
theorem tdiv_ten (u : Nat) (hu : u ≤ 9223372036854775807) : wrap64 (Int.tdiv (u : Int) 10) = ((u / 10 : Nat) : Int) := by
  rw [Int.tdiv_eq_ediv_of_nonneg (by omega), wrap_id (by omega) (by omega)]
  omega

theorem markText_l0 : ∀ (u : Nat) (x : ByteArray), u ≤ 8796093022208 → x.size + u ≤ 17592186044416 → ∃ t, Ev (fun k => laws_markText.l0 k (u : Int) x) t := by
  intro u
  induction u using Nat.strongRecOn with
  | _ u ih =>
    intro x hu hx
    rcases Nat.eq_zero_or_pos u with h | h
    · subst h
      refine ⟨(⟨#[109]⟩ : ByteArray) ++ x, ?_⟩
      apply ev_succ
      simp only [laws_markText.l0, if_neg (show ¬ ((0 : Nat) : Int) > 0 by omega), if_pos (show 1 + x.size ≤ 9223372036854775807 by omega)]
      exact Ev.now _
    · have hs : (strOfNums [48 + ((u % 10 : Nat) : Int)]).size = 1 := by
        rw [size_len, bytesOf_strOfNums _ (by intro y hy; rw [List.mem_singleton] at hy; omega)]; rfl
      obtain ⟨t, ht⟩ := ih (u / 10) (by omega) (strOfNums [48 + ((u % 10 : Nat) : Int)] ++ x) (by omega) (by rw [ByteArray.size_append, hs]; omega)
      refine ⟨t, ?_⟩
      apply ev_succ
      simp only [laws_markText.l0, if_pos (show (u : Int) > 0 by omega), Option.bind_some, digit_byte u (by omega), tdiv_ten u (by omega), hs, if_pos (show 1 + x.size ≤ 9223372036854775807 by omega)]
      exact ht
theorem markText_ev (a : Int) (h1 : a ≤ 8796093022208) : ∃ t, Ev (fun k => laws_markText.f k a) t := by
  by_cases h : a ≤ 0
  · refine ⟨(⟨#[109, 48]⟩ : ByteArray), ?_⟩
    simp only [laws_markText.f, if_pos h]; exact Ev.now _
  · obtain ⟨t, ht⟩ := markText_l0 a.toNat (⟨#[]⟩ : ByteArray) (by omega) (by rw [show (⟨#[]⟩ : ByteArray).size = 0 from rfl]; omega)
    refine ⟨t, ?_⟩
    rw [Int.toNat_of_nonneg (by omega)] at ht
    simp only [laws_markText.f, if_neg h]; exact ht

noncomputable def mT (a : Int) : ByteArray := if h : a ≤ 8796093022208 then Classical.choose (markText_ev a h) else ⟨#[]⟩
theorem mT_ev (a : Int) (h : a ≤ 8796093022208) : Ev (fun k => laws_markText.f k a) (mT a) := by
  unfold mT; rw [dif_pos h]; exact Classical.choose_spec (markText_ev a h)
theorem argN {a b c : ByteArray} {l : List S24} (h0 : a.size ≤ 9223372036854775807) (h1 : b.size ≤ 9223372036854775807) (h2 : c.size ≤ 9223372036854775807) (h3 : l.length ≤ 9223372036854775807 ∧ ∀ x ∈ l, ∀ n_ : Nat, B24 n_ x) : ∀ n, B24 n ⟨a, b, c, l⟩
  | 0 => trivial
  | n + 1 => ⟨h0, h1, h2, h3.1, fun y hy => h3.2 y hy n⟩
theorem rdN_mid (done rest : List S28) (r : S28) : rd_T28 (done ++ r :: rest) (done.length : Int) = r := by
  unfold rd_T28
  rw [Int.toNat_natCast, List.getD_eq_getElem?_getD, List.getElem?_append_right (Nat.le_refl _), Nat.sub_self]; rfl
theorem setN_mid (done rest : List S28) (r r' : S28) : (done ++ r :: rest).set done.length r' = (done ++ [r']) ++ rest := by
  rw [List.set_append_right _ _ (Nat.le_refl _), Nat.sub_self, List.set_cons_zero, List.append_assoc]; rfl
/-! copies -/
theorem copyI_l0 (a b c : ByteArray) : ∀ (rest done : List S28), (done ++ rest).length ≤ 1048576 → (∀ x ∈ rest, Ev (fun k => impl_copyNode.f k x.f0 x.f1 x.f2 x.f3) (tup x)) →
    Ev (fun k => impl_copyNode.l0 k done (done ++ rest) ((done ++ rest).length : Int) (done.length : Int) a b c (done ++ rest)) (a, b, c, done ++ rest)
  | [], done, hl, hA => by
    rw [List.append_nil]
    apply ev_succ
    simp only [impl_copyNode.l0, if_neg (show ¬ (done.length : Int) < (done.length : Int) by omega)]
    exact Ev.now _
  | x :: rest, done, hl, hA => by
    have ih := copyI_l0 a b c rest (done ++ [x]) (by rw [List.append_assoc]; exact hl) (fun y hy => hA y (by simp [hy]))
    rw [List.append_assoc, List.singleton_append, @List.length_append _ done [x], List.length_singleton] at ih
    have hx := hA x (by simp)
    have hlt : done.length < (done ++ x :: rest).length := by rw [List.length_append, List.length_cons]; omega
    apply ev_succ
    simp only [impl_copyNode.l0, if_pos (show (done.length : Int) < ((done ++ x :: rest).length : Int) by omega), if_pos (show (0 : Int) ≤ (done.length : Int) by omega), rdN_mid, if_pos (show done.length < 1954687338268 by omega), show wrap64 ((done.length : Int) + 1) = ((done.length + 1 : Nat) : Int) from by rw [wrap_id (by omega) (by omega)]; omega]
    have e1 : (⟨(tup x).1, (tup x).2.1, (tup x).2.2.1, (tup x).2.2.2⟩ : S28) = x := by unfold tup; cases x; rfl
    exact Ev.bind hx (by rw [e1]; exact ih)
theorem copyI : ∀ x : S28, lenN x ≤ 1048576 → Ev (fun k => impl_copyNode.f k x.f0 x.f1 x.f2 x.f3) (tup x) := by
  apply nodeI_ind
  intro a b c l ih hw
  rw [lenN] at hw
  apply ev_succ
  simp only [impl_copyNode.f]
  exact copyI_l0 a b c l [] (by rw [List.nil_append]; omega) (fun x hx => ih x hx (by have := lenL_mem hx; omega))
theorem copyS_l0 (a b c : ByteArray) : ∀ (rest done : List S28), (done ++ rest).length ≤ 1048576 → (∀ x ∈ rest, Ev (fun k => spec_l8Copy.f k x.f0 x.f1 x.f2 x.f3) (tup x)) →
    Ev (fun k => spec_l8Copy.l0 k (done.length : Int) a b c (done ++ rest) a b c done) (a, b, c, done ++ rest)
  | [], done, hl, hA => by
    rw [List.append_nil]
    apply ev_succ
    simp only [spec_l8Copy.l0, if_neg (show ¬ (done.length : Int) < (done.length : Int) by omega)]
    exact Ev.now _
  | x :: rest, done, hl, hA => by
    have ih := copyS_l0 a b c rest (done ++ [x]) (by rw [List.append_assoc]; exact hl) (fun y hy => hA y (by simp [hy]))
    rw [List.append_assoc, List.singleton_append, @List.length_append _ done [x], List.length_singleton] at ih
    have hx := hA x (by simp)
    have hlt : done.length < (done ++ x :: rest).length := by rw [List.length_append, List.length_cons]; omega
    apply ev_succ
    simp only [spec_l8Copy.l0, if_pos (show (done.length : Int) < ((done ++ x :: rest).length : Int) by omega), if_pos (show (0 : Int) ≤ (done.length : Int) by omega), rdN_mid, if_pos (show done.length < 1954687338268 by omega), show wrap64 ((done.length : Int) + 1) = ((done.length + 1 : Nat) : Int) from by rw [wrap_id (by omega) (by omega)]; omega]
    have e1 : (⟨(tup x).1, (tup x).2.1, (tup x).2.2.1, (tup x).2.2.2⟩ : S28) = x := by unfold tup; cases x; rfl
    exact Ev.bind hx (by rw [e1]; exact ih)
theorem copyS : ∀ x : S28, lenN x ≤ 1048576 → Ev (fun k => spec_l8Copy.f k x.f0 x.f1 x.f2 x.f3) (tup x) := by
  apply nodeI_ind
  intro a b c l ih hw
  rw [lenN] at hw
  apply ev_succ
  simp only [spec_l8Copy.f]
  exact copyS_l0 a b c l [] (by rw [List.nil_append]; omega) (fun x hx => ih x hx (by have := lenL_mem hx; omega))
/-! the kid of a name -/
noncomputable def kidF (a b : ByteArray) : List S28 → S28 × Bool
  | [] => (z28, false)
  | x :: r => if eqb x.f0 a = true then (if eqb x.f1 b = true then (x, true) else kidF a b r) else kidF a b r
theorem kidF_len (a b : ByteArray) : ∀ l : List S28, lenN (kidF a b l).1 ≤ lenL l
  | [] => Nat.le_refl _
  | x :: r => by
    have ih := kidF_len a b r
    rw [kidF, lenL]
    split
    · split
      · show lenN x ≤ _; omega
      · omega
    · omega
def tupB (p : S28 × Bool) : ByteArray × ByteArray × ByteArray × List S28 × Bool := (p.1.f0, p.1.f1, p.1.f2, p.1.f3, p.2)
theorem kidI_l0 (a b : ByteArray) : ∀ (rest done : List S28), (done ++ rest).length ≤ 1048576 → lenL rest ≤ 1048576 →
    Ev (fun k => impl_KidOf.l0 k a b (done ++ rest) ((done ++ rest).length : Int) (done.length : Int)) (tupB (kidF a b rest))
  | [], done, hl, hA => by
    rw [List.append_nil]
    apply ev_succ
    simp only [impl_KidOf.l0, if_neg (show ¬ (done.length : Int) < (done.length : Int) by omega)]
    exact Ev.now _
  | x :: rest, done, hl, hA => by
    rw [lenL] at hA
    have ih := kidI_l0 a b rest (done ++ [x]) (by rw [List.append_assoc]; exact hl) (by omega)
    rw [List.append_assoc, List.singleton_append, @List.length_append _ done [x], List.length_singleton] at ih
    have hx := copyI x (by omega)
    have hlt : done.length < (done ++ x :: rest).length := by rw [List.length_append, List.length_cons]; omega
    apply ev_succ
    simp only [impl_KidOf.l0, if_pos (show (done.length : Int) < ((done ++ x :: rest).length : Int) by omega), if_pos (show (0 : Int) ≤ (done.length : Int) by omega), rdN_mid, show wrap64 ((done.length : Int) + 1) = ((done.length + 1 : Nat) : Int) from by rw [wrap_id (by omega) (by omega)]; omega, kidF, toList_iff]
    refine ev_ite (fun q => ?_) (fun q => ?_)
    · rw [if_pos ((eqb_iff _ _).2 q)]
      refine ev_ite (fun q1 => ?_) (fun q1 => ?_)
      · rw [if_pos ((eqb_iff _ _).2 q1)]; exact Ev.bind hx (Ev.now _)
      · rw [if_neg (fun h => q1 ((eqb_iff _ _).1 h))]; exact ih
    · rw [if_neg (fun h => q ((eqb_iff _ _).1 h))]; exact ih
theorem kidS_l0 (a b p q r : ByteArray) : ∀ (rest done : List S28), (done ++ rest).length ≤ 1048576 → lenL rest ≤ 1048576 →
    Ev (fun k => spec_KidOf.l0 k a b (done.length : Int) p q r (done ++ rest)) (tupB (kidF a b rest))
  | [], done, hl, hA => by
    rw [List.append_nil]
    apply ev_succ
    simp only [spec_KidOf.l0, if_neg (show ¬ (done.length : Int) < (done.length : Int) by omega)]
    exact Ev.now _
  | x :: rest, done, hl, hA => by
    rw [lenL] at hA
    have ih := kidS_l0 a b p q r rest (done ++ [x]) (by rw [List.append_assoc]; exact hl) (by omega)
    rw [List.append_assoc, List.singleton_append, @List.length_append _ done [x], List.length_singleton] at ih
    have hx := copyS x (by omega)
    have hlt : done.length < (done ++ x :: rest).length := by rw [List.length_append, List.length_cons]; omega
    apply ev_succ
    simp only [spec_KidOf.l0, if_pos (show (done.length : Int) < ((done ++ x :: rest).length : Int) by omega), if_pos (show (0 : Int) ≤ (done.length : Int) by omega), rdN_mid, show wrap64 ((done.length : Int) + 1) = ((done.length + 1 : Nat) : Int) from by rw [wrap_id (by omega) (by omega)]; omega, kidF, toList_iff]
    refine ev_ite (fun q => ?_) (fun q => ?_)
    · rw [if_pos ((eqb_iff _ _).2 q)]
      refine ev_ite (fun q1 => ?_) (fun q1 => ?_)
      · rw [if_pos ((eqb_iff _ _).2 q1)]; exact Ev.bind hx (Ev.now _)
      · rw [if_neg (fun h => q1 ((eqb_iff _ _).1 h))]; exact ih
    · rw [if_neg (fun h => q ((eqb_iff _ _).1 h))]; exact ih
/-! marks over trees -/
mutual
def MkN : S28 → Int → Prop
  | ⟨p, q, r, l⟩, a => p = mT a ∧ q = mT (a + 1) ∧ r = mT (a + 2) ∧ MkL l (a + 3)
def MkL : List S28 → Int → Prop
  | [], _ => True
  | x :: r, a => MkN x a ∧ MkL r (a + 3 + 3 * (lenN x : Int))
end
theorem markN_l0 : ∀ (rest done : List S28) (a : Int), (∀ x ∈ rest, ∀ b : Int, 0 ≤ b → b + 3 * (lenN x : Int) ≤ 1099511627776 → ∃ l, Ev (fun k => laws_markNodeS.f k x.f3 b) (b + 3 * (lenN x : Int), l) ∧ l.length + lenL l = lenN x ∧ MkL l b) →
    done.length + rest.length ≤ 1099511627776 → 0 ≤ a → a + 3 * ((rest.length + lenL rest : Nat) : Int) ≤ 1099511627776 →
    ∃ l, Ev (fun k => laws_markNodeS.l0 k (done ++ rest) a (done.length : Int)) (a + 3 * ((rest.length + lenL rest : Nat) : Int), done ++ l) ∧ l.length = rest.length ∧ lenL l = lenL rest ∧ MkL l a
  | [], done, a, hA, hl, h0, h1 => by
    refine ⟨[], ?_, rfl, rfl, trivial⟩
    rw [List.append_nil]
    apply ev_succ
    simp only [laws_markNodeS.l0, if_neg (show ¬ (done.length : Int) < (done.length : Int) by omega)]
    rw [show a + 3 * ((([] : List S28).length + lenL [] : Nat) : Int) = a by rw [lenL, List.length_nil]; omega]
    exact Ev.now _
  | x :: rest, done, a, hA, hl, h0, h1 => by
    rw [List.length_cons] at hl
    rw [List.length_cons, lenL] at h1
    obtain ⟨m, g1, g2, g3⟩ := hA x (by simp) (a + 3) (by omega) (by omega)
    obtain ⟨l, i1, i2, i3, i4⟩ := markN_l0 rest (done ++ [⟨mT a, mT (a + 1), mT (a + 2), m⟩]) (a + 3 + 3 * (lenN x : Int)) (fun y hy => hA y (by simp [hy])) (by rw [List.length_append, List.length_singleton]; omega) (by omega) (by omega)
    rw [List.length_append, List.length_singleton, List.append_assoc done _ l, List.singleton_append] at i1
    have e : lenN ⟨mT a, mT (a + 1), mT (a + 2), m⟩ = lenN x := by rw [lenN, g2]
    refine ⟨⟨mT a, mT (a + 1), mT (a + 2), m⟩ :: l, ?_, by rw [List.length_cons, List.length_cons, i2], by rw [lenL, lenL, i3, e], ?_⟩
    · have hlt : done.length < (done ++ x :: rest).length := by rw [List.length_append, List.length_cons]; omega
      apply ev_succ
      simp only [laws_markNodeS.l0, if_pos (show (done.length : Int) < ((done ++ x :: rest).length : Int) by omega), if_pos (show (0 : Int) ≤ (done.length : Int) by omega), rdN_mid, Int.toNat_natCast, setN_mid, show wrap64 ((done.length : Int) + 1) = ((done.length + 1 : Nat) : Int) from by rw [wrap_id (by omega) (by omega)]; omega, show wrap64 (a + 1) = a + 1 from wrap_id (by omega) (by omega), show wrap64 (a + 1 + 1) = a + 2 from by rw [wrap_id (by omega) (by omega)]; omega, show wrap64 (a + 2 + 1) = a + 3 from by rw [wrap_id (by omega) (by omega)]; omega]
      refine Ev.bind (mT_ev a (by omega)) (Ev.bind (mT_ev (a + 1) (by omega)) (Ev.bind (mT_ev (a + 2) (by omega)) (Ev.bind g1 ?_)))
      have e2 : a + 3 * (((x :: rest).length + lenL (x :: rest) : Nat) : Int) = a + 3 + 3 * (lenN x : Int) + 3 * ((rest.length + lenL rest : Nat) : Int) := by rw [List.length_cons, lenL]; omega
      rw [e2]; exact i1
    · rw [MkL, MkN, e]; exact ⟨⟨rfl, rfl, rfl, g3⟩, i4⟩
theorem markN_ev : ∀ (x : S28) (b : Int), 0 ≤ b → b + 3 * (lenN x : Int) ≤ 1099511627776 → ∃ l, Ev (fun k => laws_markNodeS.f k x.f3 b) (b + 3 * (lenN x : Int), l) ∧ l.length + lenL l = lenN x ∧ MkL l b := by
  apply nodeI_ind
  intro p q r l ih b h0 h1
  rw [lenN] at h1 ⊢
  obtain ⟨m, i1, i2, i3, i4⟩ := markN_l0 l [] b ih (by simp only [List.length_nil]; omega) h0 h1
  refine ⟨m, ?_, by rw [i2, i3], i4⟩
  apply ev_succ
  simp only [laws_markNodeS.f]
  exact i1
theorem heldN_l0 : ∀ (rest done : List S28) (a : Int), (∀ x ∈ rest, ∀ b : Int, MkL x.f3 b → 0 ≤ b → b + 3 * (lenN x : Int) ≤ 1099511627776 → Ev (fun k => laws_heldNodeS.f k x.f3 b) (b + 3 * (lenN x : Int))) →
    MkL rest a → done.length + rest.length ≤ 1099511627776 → 0 ≤ a → a + 3 * ((rest.length + lenL rest : Nat) : Int) ≤ 1099511627776 →
    Ev (fun k => laws_heldNodeS.l0 k (done ++ rest) a (done.length : Int)) (a + 3 * ((rest.length + lenL rest : Nat) : Int))
  | [], done, a, hA, hm, hl, h0, h1 => by
    rw [List.append_nil]
    apply ev_succ
    simp only [laws_heldNodeS.l0, if_neg (show ¬ (done.length : Int) < (done.length : Int) by omega)]
    rw [show a + 3 * ((([] : List S28).length + lenL [] : Nat) : Int) = a by rw [lenL, List.length_nil]; omega]
    exact Ev.now _
  | ⟨p, q, r, m⟩ :: rest, done, a, hA, hm, hl, h0, h1 => by
    rw [List.length_cons] at hl
    rw [List.length_cons, lenL] at h1
    rw [MkL, MkN] at hm
    obtain ⟨⟨rfl, rfl, rfl, hk⟩, hr⟩ := hm
    have g1 := hA ⟨mT a, mT (a + 1), mT (a + 2), m⟩ (by simp) (a + 3) hk (by omega) (by omega)
    have i1 := heldN_l0 rest (done ++ [⟨mT a, mT (a + 1), mT (a + 2), m⟩]) _ (fun y hy => hA y (by simp [hy])) hr (by rw [List.length_append, List.length_singleton]; omega) (by omega) (by omega)
    rw [List.length_append, List.length_singleton, List.append_assoc, List.singleton_append] at i1
    have hlt : done.length < (done ++ ⟨mT a, mT (a + 1), mT (a + 2), m⟩ :: rest).length := by rw [List.length_append, List.length_cons]; omega
    apply ev_succ
    simp only [laws_heldNodeS.l0, if_pos (show (done.length : Int) < ((done ++ ⟨mT a, mT (a + 1), mT (a + 2), m⟩ :: rest).length : Int) by omega), if_pos (show (0 : Int) ≤ (done.length : Int) by omega), rdN_mid, show wrap64 ((done.length : Int) + 1) = ((done.length + 1 : Nat) : Int) from by rw [wrap_id (by omega) (by omega)]; omega, show wrap64 (a + 1) = a + 1 from wrap_id (by omega) (by omega), show wrap64 (a + 1 + 1) = a + 2 from by rw [wrap_id (by omega) (by omega)]; omega, show wrap64 (a + 2 + 1) = a + 3 from by rw [wrap_id (by omega) (by omega)]; omega]
    refine Ev.bind (mT_ev a (by omega)) (ev_ite (fun _ => ?_) (fun q => absurd rfl q))
    refine Ev.bind (mT_ev (a + 1) (by omega)) (ev_ite (fun _ => ?_) (fun q => absurd rfl q))
    refine Ev.bind (mT_ev (a + 2) (by omega)) (ev_ite (fun _ => ?_) (fun q => absurd rfl q))
    refine Ev.bind g1 (ev_ite (fun q => absurd q (by omega)) (fun _ => ?_))
    have e2 : a + 3 * ((((⟨mT a, mT (a + 1), mT (a + 2), m⟩ : S28) :: rest).length + lenL (⟨mT a, mT (a + 1), mT (a + 2), m⟩ :: rest) : Nat) : Int) = a + 3 + 3 * (lenN ⟨mT a, mT (a + 1), mT (a + 2), m⟩ : Int) + 3 * ((rest.length + lenL rest : Nat) : Int) := by rw [List.length_cons, lenL]; omega
    rw [e2]; exact i1
theorem heldN_ev : ∀ (x : S28) (b : Int), MkL x.f3 b → 0 ≤ b → b + 3 * (lenN x : Int) ≤ 1099511627776 → Ev (fun k => laws_heldNodeS.f k x.f3 b) (b + 3 * (lenN x : Int)) := by
  apply nodeI_ind
  intro p q r l ih b hm h0 h1
  rw [lenN] at h1 ⊢
  have i1 := heldN_l0 l [] b ih hm (by simp only [List.length_nil]; omega) h0 h1
  apply ev_succ
  simp only [laws_heldNodeS.f]
  exact i1
theorem FnExactKidOf : laws_FnExactKidOf.Pure := by
  intro a b c l n m h0 h1 h2 h3 hn hm
  apply Ev.rounds
  unfold laws_FnExactKidOf.f
  refine ev_ite (fun _ => Ev.now _) (fun _ => ev_ite (fun _ => Ev.now _) (fun _ => ?_))
  refine Ev.bind (szN_ev ⟨a, b, c, l⟩ (argN h0 h1 h2 h3) 1048576 (by omega) (by omega)) (ev_ite (fun _ => Ev.now _) (fun q => ?_))
  obtain ⟨hw, _⟩ := szV_ok q
  have t1 := toN_ev ⟨a, b, c, l⟩ (by omega)
  have l1 := lenN_to ⟨a, b, c, l⟩
  rw [toN] at l1 t1
  rw [lenN] at l1
  have kI := kidI_l0 n m (toL l) [] (by rw [List.nil_append]; omega) (by omega)
  have kS := kidS_l0 n m a b c (toL l) [] (by rw [List.nil_append]; omega) (by omega)
  have kl := kidF_len n m (toL l)
  rw [List.nil_append] at kI kS
  obtain ⟨y, d, hy⟩ : ∃ y d, kidF n m (toL l) = (y, d) := ⟨_, _, rfl⟩
  rw [hy] at kI kS kl
  have hyl : lenN y ≤ 1048576 := by show lenN (y, d).1 ≤ _; omega
  have ey := eqN_ev y hyl
  have et := eqN_ev ⟨a, b, c, toL l⟩ (by rw [lenN]; omega)
  obtain ⟨lt, mt, _, _⟩ := markN_ev ⟨a, b, c, toL l⟩ 1 (by omega) (by rw [lenN]; omega)
  obtain ⟨ly, my, ny, ky⟩ := markN_ev y 1 (by omega) (by omega)
  have hd := heldN_ev ⟨y.f0, y.f1, y.f2, ly⟩ 1 ky (by omega) (by rw [lenN]; omega)
  rw [lenN, ny] at hd
  have hh : Ev (fun k => laws_heldNode.f k y.f0 y.f1 y.f2 ly 1) (1 + 3 * (lenN y : Int)) := by
    unfold laws_heldNode.f
    exact Ev.bind hd (ev_ite (fun q => absurd q (by omega)) (fun _ => Ev.now _))
  have hj2 : Ev (fun k => laws_FnExactKidOf.j2 k (1 + 3 * (lenN y : Int)) false y.f0 y.f1 y.f2 ly) true := by
    apply ev_succ
    simp only [laws_FnExactKidOf.j2, Bool.false_eq_true, if_false]
    refine Ev.bind hh (ev_ite (fun q => absurd q (by omega)) (fun _ => ?_))
    simp only [if_true]
    exact Ev.now _
  have hmy : Ev (fun k => laws_markNode.f k y.f0 y.f1 y.f2 y.f3 1) (1 + 3 * (lenN y : Int), ly) := by
    unfold laws_markNode.f
    exact Ev.bind my (Ev.now _)
  have hmt : Ev (fun k => laws_markNode.f k a b c (toL l) 1) (1 + 3 * (lenN ⟨a, b, c, toL l⟩ : Int), lt) := by
    unfold laws_markNode.f
    exact Ev.bind mt (Ev.now _)
  have hI : Ev (fun k => impl_KidOf.f k a b c (toL l) n m) (tupB (y, d)) := kI
  have hS : Ev (fun k => spec_KidOf.f k a b c (toL l) n m) (tupB (y, d)) := kS
  have hj1 : Ev (fun k => laws_FnExactKidOf.j1 k n m d false a b c l y.f0 y.f1 y.f2 y.f3 y.f0 y.f1 y.f2 y.f3) true := by
    apply ev_succ
    simp only [laws_FnExactKidOf.j1, Bool.false_eq_true, if_false]
    refine Ev.bind hmy (Ev.bind hh (ev_ite (fun q => absurd q (by omega)) (fun _ => ?_)))
    simp only [if_true]
    refine Ev.bind t1 (Ev.bind hI (Ev.bind ey (ev_iteB (fun _ => ?_) (fun q => absurd q (by decide)))))
    simp only [tupB, bne_self_eq_false]
    exact hj2
  have hj0 : Ev (fun k => laws_FnExactKidOf.j0 k n m d d false a b c l y.f0 y.f1 y.f2 y.f3 a b c (toL l) y.f0 y.f1 y.f2 y.f3) true := by
    apply ev_succ
    simp only [laws_FnExactKidOf.j0, Bool.false_eq_true, if_false]
    refine Ev.bind t1 (Ev.bind et (ev_iteB (fun _ => ?_) (fun q => absurd q (by decide))))
    refine Ev.bind hmt (ev_ite (fun q => absurd q (by simp only []; omega)) (fun _ => ?_))
    refine Ev.bind ey (ev_iteB (fun _ => ?_) (fun q => absurd q (by decide)))
    simp only [bne_self_eq_false]
    exact hj1
  refine Ev.bind t1 (Ev.bind hS (Ev.bind t1 (Ev.bind hI (Ev.bind ey (ev_iteB (fun _ => ?_) (fun q => absurd q (by decide)))))))
  simp only [tupB, tup, bne_self_eq_false]
  exact hj0

end Go.Proofs.Ytaajhdljdmbhhaa.Pure
