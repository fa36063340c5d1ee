-- by gprint.py (this session's program over the kit's print.py) (a twelfth state) out of the translation. Not trusted: Lean checks it.
import Derived.Test.YtaajhdljdmbhhaaGreatDoorGFnExactFeedAllx0
import Derived.Test.YtaajhdljdmbhhaaGreatDoorGFnExactFeedAllx1
import Derived.Test.YtaajhdljdmbhhaaGreatDoorGFnExactFeedAllx2
namespace Go.Proofs.YtaajhdljdmbhhaaGreatDoor.GFnExactFeedAll
open Go.RowKit Go.Proofs.YtaajhdljdmbhhaaGreatDoorW.PrintWords Go.Proofs.YtaajhdljdmbhhaaGreatDoorW.PrintLast Go.Proofs.YtaajhdljdmbhhaaGreatDoorW.PrintMore
attribute [local go_sem] max2_int min2_int max_two min_two max_three min_three max_four min_four   -- for this text's walks alone
set_option linter.unusedVariables false
set_option linter.unusedSimpArgs false
set_option maxRecDepth 100000
set_option maxHeartbeats 8000000

def laws_eqByteSS.l0 : Nat → List (List Int) → List (List Int) → Int → Option (Bool)
 | 0, _, _, _ => none
 | k + 1, x0, x1, x5 => if x5 < (x0.length : Int) then (if 0 ≤ x5 then (if x5 < (x1.length : Int) then ((laws_eqByteS.f k (rd_L5 x0 x5) (rd_L5 x1 x5)).bind fun t539 => (if t539 = true then (laws_eqByteSS.l0 k x0 x1 (wrap64 (x5 + 1))) else (some false))) else (none)) else (none)) else (some true)
def laws_eqByteSS.f (k : Nat) (l0 : List (List Int)) (l1 : List (List Int)) : Option (Bool) := if (l0.length : Int) = (l1.length : Int) then (laws_eqByteSS.l0 k l0 l1 0) else (some false)

theorem laws_eqByteSS.calls (k : Nat) (A0 : Option Addr) (c0 : Nat) (l0 : List (List Int)) (A1 : Option Addr) (c1 : Nat) (l1 : List (List Int)) (r : Bool) (w : World) (hr0 : Kd.C (Kd.slice 5 (Kd.int .u8)) w A0 l0.length l0) (hc0 : l0.length ≤ c0) (hr1 : Kd.C (Kd.slice 5 (Kd.int .u8)) w A1 l1.length l1) (hc1 : l1.length ≤ c1) (h : laws_eqByteSS.f k l0 l1 = some r) :
  Calls Tryz.prog 26 #[.slice A0 l0.length c0, .slice A1 l1.length c1] w fun e w' => e = .returned (.bool r) ∧ Drawn0 w w' := by
 have HR0 := aK hr0; have HC0 := aK hc0; clear hr0 hc0; have HR1 := aK hr1; have HC1 := aK hc1; clear hr1 hc1; have H : (if (l0.length : Int) = (l1.length : Int) then (laws_eqByteSS.l0 k l0 l1 0) else (some false)) = some r := h; clear h; by_cases c3 : (l0.length : Int) = (l1.length : Int)
 ·rw [if_pos c3] at H; have c3b0 := beq_iff_eq.mpr c3; have c3b1 : ((l0.length : Int) != (l1.length : Int)) = false := bne_eq_false_iff_eq.mpr c3; have c3b2 : (l0.length == l1.length) = true := q117_; clear c3; have H' := aK H; clear H; go_enter Tryz.func26, Tryz.ntmps26
  go_wp2
  repeat (go_quiet (fail); try go_wp2)
  go_loopg [5] k (fun kq v5 w' => ∃ (x5_1 : Int), v5 = .int .i64 x5_1 ∧ Aside0 (laws_eqByteSS.l0 kq l0 l1 x5_1 = some r) ∧ Aside0 (kq ≤ k) ∧ Drawn0 w w')
  case atStart => exact ⟨(0), q2_, H', ⟨Nat.le_refl _⟩, q5_⟩
  case round =>
   clear H'; (try clear c1); (try clear c2); (try clear p2); (try clear c3); (try clear c3b0); (try clear c3b1); (try clear c3b2); obtain ⟨x5_1, rfl, HA, HK1, ⟨m1, rfl⟩⟩ := hrel; cases gk with
   | zero => exact absurd HA.1 (by simp [laws_eqByteSS.l0])
   | succ k1 =>
    have H := HA.1; clear HA; simp only [laws_eqByteSS.l0] at H; by_cases c4 : x5_1 < (l0.length : Int)
    ·rw [if_pos c4] at H; have c4b0 := decide_eq_true c4; clear c4; by_cases c5 : 0 ≤ x5_1
     ·rw [if_pos c5] at H; have c5b0 := decide_eq_true c5; clear c5; by_cases c6 : x5_1 < (l1.length : Int)
      ·rw [if_pos c6] at H; have c6b0 := decide_eq_true c6; clear c6; replace H := oB H; obtain ⟨t539, A7, H⟩ := H; (try dsimp only at H); have HC8 := aK H; clear H; have p537 : 0 ≤ (x5_1 : Int) := of_decide_eq_true q4_; have q537 : x5_1 < (l0.length : Int) := of_decide_eq_true q4_; obtain ⟨ad537, A537_0, c537_0, e537, hx537_0, hl537_0, hi537_0⟩ := at_L5 HR0.1 x5_1 p537 q537; cases e537
       have HR537_0 := aK hi537_0; have HC537_0 := aK hl537_0; clear hi537_0 hl537_0; replace p537 := eq_true p537; replace q537 := eq_true q537; have p538 : 0 ≤ (x5_1 : Int) := of_decide_eq_true q4_; have q538 : x5_1 < (l1.length : Int) := of_decide_eq_true q4_; obtain ⟨ad538, A538_0, c538_0, e538, hx538_0, hl538_0, hi538_0⟩ := at_L5 HR1.1 x5_1 p538 q538; cases e538
       have HR538_0 := aK hi538_0; have HC538_0 := aK hl538_0; clear hi538_0 hl538_0; replace p538 := eq_true p538; replace q538 := eq_true q538; go_upto_if 26 with (first | (go_at_call 16; (with_reducible refine (laws_eqByteS.calls k1 _ _ (rd_L5 l0 x5_1) _ _ (rd_L5 l1 x5_1) t539 _ ?side1 ?side2 ?side3 ?side4 A7.1).mono ?_); (case side1 => exact q121_); (case side2 => exact HC537_0.1); (case side3 => exact q120_); (case side4 => exact HC538_0.1); rintro e w' ⟨rfl, ⟨nd, rfl⟩⟩; (try first | exact ⟨rfl, _, World.drewN_drewN _ _ _⟩ | exact ⟨rfl, _, Eq.trans (World.drewN_drewN _ _ _) (congrArg (World.drewN _) (Nat.add_assoc _ _ _))⟩)))
       repeat (go_quiet (first | (go_at_call 16; (with_reducible refine (laws_eqByteS.calls k1 _ _ (rd_L5 l0 x5_1) _ _ (rd_L5 l1 x5_1) t539 _ ?side1 ?side2 ?side3 ?side4 A7.1).mono ?_); (case side1 => exact q121_); (case side2 => exact HC537_0.1); (case side3 => exact q120_); (case side4 => exact HC538_0.1); rintro e w' ⟨rfl, ⟨nd, rfl⟩⟩; (try first | exact ⟨rfl, _, World.drewN_drewN _ _ _⟩ | exact ⟨rfl, _, Eq.trans (World.drewN_drewN _ _ _) (congrArg (World.drewN _) (Nat.add_assoc _ _ _))⟩))); go_upto_if 26 with (first | (go_at_call 16; (with_reducible refine (laws_eqByteS.calls k1 _ _ (rd_L5 l0 x5_1) _ _ (rd_L5 l1 x5_1) t539 _ ?side1 ?side2 ?side3 ?side4 A7.1).mono ?_); (case side1 => exact q121_); (case side2 => exact HC537_0.1); (case side3 => exact q120_); (case side4 => exact HC538_0.1); rintro e w' ⟨rfl, ⟨nd, rfl⟩⟩; (try first | exact ⟨rfl, _, World.drewN_drewN _ _ _⟩ | exact ⟨rfl, _, Eq.trans (World.drewN_drewN _ _ _) (congrArg (World.drewN _) (Nat.add_assoc _ _ _))⟩))))
       (try simp only [Act.put, sI, sZ, sS]); have H := HC8.1; clear HC8; by_cases c9 : t539 = true
       ·subst c9; rw [if_pos rfl] at H; have H' := aK H; clear H; go_wp2
        repeat (go_quiet (fail); try go_wp2)
        go_roundg k1
        case measure => have := HK1.1; omega
        case rel => exact ⟨(wrap64 (x5_1 + 1)), q2_, H', ⟨q64_⟩, q5_⟩
       ·replace c9 := Bool.eq_false_iff.mpr c9; subst c9; rw [if_neg (show ¬ (false = true) by decide)] at H; obtain rfl := Option.some.inj H; go_wp2
        repeat (go_quiet (fail); try go_wp2)
        go_ret
        exact ⟨q2_, q5_⟩
      ·rw [if_neg c6] at H; exact absurd H (by simp)
     ·rw [if_neg c5] at H; exact absurd H (by simp)
    ·rw [if_neg c4] at H; have c4b0 := decide_eq_false c4; clear c4; obtain rfl := Option.some.inj H; go_wp2
     repeat (go_quiet (fail); try go_wp2)
     go_ret
     exact ⟨q2_, q5_⟩
 ·rw [if_neg c3] at H; have c3b0 := beq_eq_false_iff_ne.mpr c3; have c3b1 : ((l0.length : Int) != (l1.length : Int)) = true := bne_iff_ne.mpr c3; have c3b2 : (l0.length == l1.length) = false := q117_; obtain rfl := Option.some.inj H; go_enter Tryz.func26, Tryz.ntmps26
  go_wp2
  repeat (go_quiet (fail); try go_wp2)
  go_ret
  exact ⟨q2_, q5_⟩


/-- marks over a row of rows: how many -/
def laws_markByteSS.f (l0 : List (List Int)) (a1 : Int) : Option (Int × List (List Int)) :=
 if 0 ≤ a1 ∧ a1 + ((l0.map List.length).sum : Int) ≤ 1125899906842624 ∧ l0.length ≤ 8796093022208 then some (a1 + ((l0.map List.length).sum : Int), l0) else none
theorem laws_markByteSS.one : ∀ (n : Nat) (x : List Int) (a : Int) (i : Nat), x.length - i = n → i ≤ x.length → x.length ≤ 1125899906842624 → 0 ≤ a → a + n ≤ 1125899906842624 → ∃ y, laws_markByteS.l0 (n + 1) x a (i : Int) = some (a + n, y)
 | 0, x, a, i, hn, hi, hl, h0, h1 => by
  refine ⟨x, ?_⟩; simp only [laws_markByteS.l0, if_neg (show ¬ (i : Int) < x.length by omega)]; congr 1; simp
 | n + 1, x, a, i, hn, hi, hl, h0, h1 => by
  obtain ⟨y, h2⟩ := laws_markByteSS.one n (x.set i (a % 256)) (a + 1) (i + 1) (by simp; omega) (by simp; omega) (by simp; omega) (by omega) (by omega); refine ⟨y, ?_⟩; have w1 : wrap64 (a + 1) = a + 1 := by unfold wrap64; omega
  have w2 : wrap64 ((i : Int) + 1) = ((i + 1 : Nat) : Int) := by unfold wrap64; omega
  rw [laws_markByteS.l0]; simp only [if_pos (show (i : Int) < x.length by omega), if_pos (show (0 : Int) ≤ i by omega), Int.toNat_natCast, w1, w2]; rw [h2]; congr 1
  rw [show a + 1 + (n : Int) = a + ((n + 1 : Nat) : Int) by omega]
/-- what is known of the rows that are still to be marked -/
def laws_markByteSS.Inv (w0 : World) (P0_ : Nat → Prop) (f : Nat → Nat) (v : Value) (l0 : List (List Int)) (inner : List Value) (i : Nat) (W : World) : Prop :=
 W.ownsRowM w0.heap.size 22 1 v l0.length inner ∧ ∀ j p, i ≤ j → l0[j]? = some p → ∃ vj, inner[j]? = some vj ∧ Kd.R (Kd.int .u8) 5 W w0.heap.size (fun k => (P0_ k ∧ some k ≠ v.ownBlock) ∧ f k = j) vj p
theorem laws_markByteSS.sum_at (l : List (List Int)) (i : Nat) (p : List Int) (h : l[i]? = some p) : ((l.take (i + 1)).map List.length).sum = ((l.take i).map List.length).sum + p.length := by
 have hi := (List.getElem?_eq_some_iff.1 h).1; rw [List.take_add_one, h, Option.toList_some, List.map_append, List.sum_append]; simp
theorem laws_markByteSS.sum_le (l : List (List Int)) (i : Nat) : ((l.take i).map List.length).sum ≤ (l.map List.length).sum := by
 have h := List.take_append_drop i l; have h2 : (l.map List.length).sum = ((l.take i ++ l.drop i).map List.length).sum := by rw [h]
 rw [h2, List.map_append, List.sum_append]; omega
set_option maxHeartbeats 4000000 in
theorem laws_markByteSS.calls (P0_ : Nat → Prop) (v : Value) (l0 : List (List Int)) (a1 : Int) (r1 : Int) (r2 : List (List Int)) (w0 w : World) (hB : Below w0.heap.size w0 w) (ho0 : Kd.S (Kd.slice 5 (Kd.int .u8)) 22 w w0.heap.size P0_ v l0) (h : laws_markByteSS.f l0 a1 = some (r1, r2)) :
  Calls Tryz.prog 27 #[v, .int .i64 a1] w fun e w' => e = .returned (.int .i64 r1) ∧ Below w0.heap.size w0 w' ∧ Kept w w' P0_ := by
 unfold laws_markByteSS.f at h
 split at h
 rotate_left
 ·cases h
 rename_i hq
 obtain ⟨h0, hsum, hlen⟩ := hq; have hr1 := (Prod.mk.inj (Option.some.inj h)).1; subst hr1; clear h; obtain ⟨f, hf0, inner, ho, hr⟩ := ho0; rw [List.length_zipIdx] at ho; have hI : laws_markByteSS.Inv w0 P0_ f v l0 inner 0 w := by
  refine ⟨ho, fun j p _ hj => ?_⟩; have hz : l0.zipIdx[j]? = some (p, j) := by rw [List.getElem?_zipIdx, hj, Nat.zero_add]; rfl
  obtain ⟨vj, hc, hR⟩ := hr.2 j (p, j) hz; refine ⟨vj, ?_, hR⟩; have h2 := congrArg (fun l => l[0]?) hc; simp only [List.getElem?_take, List.getElem?_drop, Nat.mul_one, Nat.add_zero] at h2; simpa [Kd.tag, Kd.slice] using h2
 clear hr; obtain ⟨A, c, rfl⟩ : ∃ A c, v = .slice A l0.length c := by
  rcases ho.2 with ⟨h1, h2⟩ | ⟨g, cap, cur, h1, _⟩
  ·exact ⟨none, 0, by rw [h1, h2]⟩
  ·exact ⟨_, _, h1⟩
 clear hf0 ho; have HI := aK hI; have HB := aK hB; clear hI hB; go_enter Tryz.func27, Tryz.ntmps27
 go_wp2
 go_loopw [1, 5] (fun vk vi wr => ∃ (i : Nat) (a : Int), vk = .int .i64 a ∧ vi = .int .i64 i ∧ Aside0 (a = a1 + (((l0.take i).map List.length).sum : Int)) ∧ Aside0 (i ≤ l0.length) ∧ Aside0 (laws_markByteSS.Inv w0 P0_ f (.slice A l0.length c) l0 inner i wr) ∧ Aside0 (Below w0.heap.size w0 wr) ∧ Aside0 (Kept w wr P0_)) (fun _ vi _ => l0.length - (RowKit.intOf vi).toNat)
 case atStart => exact ⟨0, a1, rfl, rfl, ⟨by simp⟩, ⟨Nat.zero_le _⟩, HI, HB, ⟨Kept.refl w P0_⟩⟩
 case round =>
  obtain ⟨i, a, rfl, rfl, Ha, Hi, HIi, HBi, HKi⟩ := hrel; rename World => W0
  by_cases hlt : i < l0.length
  ·obtain ⟨p, hp⟩ : ∃ p, l0[i]? = some p := ⟨_, List.getElem?_eq_getElem hlt⟩; obtain ⟨vj, hv, hR⟩ := HIi.1.2 i p (Nat.le_refl _) hp; obtain ⟨Aj, cj, rfl⟩ := Kd.R_slice hR; have hs1 := laws_markByteSS.sum_at l0 i p hp; have hs2 := laws_markByteSS.sum_le l0 (i + 1); rcases HIi.1.1.2 with ⟨_, hn0⟩ | ⟨g, cap, cur, hcv, hg, hh, hnc, hcm, hcs, hct⟩
   ·omega
   injection hcv with hA _ hc
   subst hA; subst hc; have hcell : W0.cell? ⟨g, i, none⟩ = some (.slice Aj p.length cj) := by
    rw [hh.cell]; have : cur.toList[i]? = some (.slice Aj p.length cj) := by
     rw [← hct, List.getElem?_take] at hv; split at hv
     ·exact hv
     ·cases hv
    simpa using this
   have ha := Ha.1; have hab : 0 ≤ a ∧ a + p.length ≤ 1125899906842624 := by omega
   obtain ⟨y, hy⟩ := laws_markByteSS.one p.length p a 0 (by omega) (by omega) (by omega) (by omega) (by omega); have hcall := laws_markByteS.calls (p.length + 1) (fun k => (P0_ k ∧ some k ≠ (Value.slice (some ⟨g, 0, none⟩) l0.length c).ownBlock) ∧ f k = i) (.slice Aj p.length cj) p a (a + p.length) y w0 W0 HBi.1 hR hy; have hs3 : a + (p.length : Int) = a1 + (((l0.take (i + 1)).map List.length).sum : Int) := by omega
   have HS3 := aK hs3; clear ha hab hs1 hs3; have hltb : decide ((i : Int) < (l0.length : Int)) = true := decide_eq_true (by omega); clear hy hs2 hct hcs hnc hcm; go_wp2_with (go_at_call 18; refine hcall.mono ?_)
   rintro e w1 rfl _ hb1 hk1; have hInv : laws_markByteSS.Inv w0 P0_ f (.slice (some ⟨g, 0, none⟩) l0.length c) l0 inner (i + 1) w1 := by
    refine ⟨own_move HIi.1.1 (fun k hk => hk1.2 k (own_lt HIi.1.1 k hk) (fun hP => hP.1.2 hk.symm)), fun j q hj hq => ?_⟩; obtain ⟨vq, hv2, hR2⟩ := HIi.1.2 j q (by omega) hq; exact ⟨vq, hv2, Kd.R_step hR2 (fun k hok hkl => hk1.2 k hkl (fun hS => by have h1 := hok.2; have h2 := hS.2; omega))⟩
   have HINV := aK hInv; have HB1 := aK hb1; have HK1 := aK (HKi.1.then_ (S2 := fun k => (P0_ k ∧ some k ≠ (Value.slice (some ⟨g, 0, none⟩) l0.length c).ownBlock) ∧ f k = i) hk1 (fun k hS => .inl hS.1.1)); have hw : IntKind.i64.wrap ((i : Int) + 1) = (i : Int) + 1 := by have := Hi.1; rw [IntKind.wrap_i64]; omega
   clear hInv hb1 hk1 hR hh hv hcell hcall hp; go_wp2
   go_roundw
   case rel => exact ⟨i + 1, a + (p.length : Int), rfl, by first | rfl | simp, HS3, ⟨by omega⟩, HINV, HB1, HK1⟩
   case measure => simp [RowKit.intOf]; omega
  ·have hltb : decide ((i : Int) < (l0.length : Int)) = false := decide_eq_false (by omega); have hltn : decide (i < l0.length) = false := decide_eq_false hlt; have he : i = l0.length := by have := Hi.1; omega
   have ha := Ha.1; rw [he, List.take_length] at ha; have HA := aK ha; clear ha he hlt; go_wp2
   go_ret
   exact ⟨by rw [HA.1]; rfl, HBi.1, HKi.1⟩

end Go.Proofs.YtaajhdljdmbhhaaGreatDoor.GFnExactFeedAll
