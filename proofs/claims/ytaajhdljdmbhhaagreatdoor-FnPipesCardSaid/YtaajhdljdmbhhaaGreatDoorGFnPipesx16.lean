-- by gprint.py (this session's program over the kit's print.py) (a twelfth state) out of the translation. Not trusted: Lean checks it.
import Derived.Test.YtaajhdljdmbhhaaGreatDoorGFnPipesx0
import Derived.Test.YtaajhdljdmbhhaaGreatDoorGFnPipesx15
namespace Go.Proofs.YtaajhdljdmbhhaaGreatDoor.GFnPipes
open Go.RowKit Go.Proofs.YtaajhdljdmbhhaaGreatDoorW.PrintWords Go.Proofs.YtaajhdljdmbhhaaGreatDoorW.PrintLast Go.Proofs.YtaajhdljdmbhhaaGreatDoorW.PrintMore
attribute [local go_sem] max2_int min2_int max_two min_two max_three min_three max_four min_four   -- for this text's walks alone
set_option linter.unusedVariables false
set_option linter.unusedSimpArgs false
set_option maxRecDepth 100000
set_option maxHeartbeats 8000000

def spec_l4Text.l0 : Nat → ByteArray → List Int → ByteArray → Int → Option (ByteArray)
 | 0, _, _, _, _ => none
 | k + 1, x0, x1, x5, x6 => if x6 < (x1.length : Int) then (if 0 ≤ x6 then (if (rd x1 x6) < 1 then (spec_l4Text.l0 k x0 x1 x5 (wrap64 (x6 + 1))) else (if (rd x1 x6) > (x0.size : Int) then (if 0 ≤ (x0.size : Int) then (if (x0.size : Int) ≤ (x0.size : Int) then ((spec_l4Piece.f k (x0.extract 0 x0.size)).bind fun t611 => (if x5.size + t611.size ≤ 9223372036854775807 then (spec_l4Text.l0 k (x0.extract x0.size x0.size) x1 (x5 ++ t611) (wrap64 (x6 + 1))) else (none))) else (none)) else (none)) else (if 0 ≤ (rd x1 x6) then (if (rd x1 x6) ≤ (x0.size : Int) then ((spec_l4Piece.f k (x0.extract 0 ((rd x1 x6) : Int).toNat)).bind fun t612 => (if x5.size + t612.size ≤ 9223372036854775807 then (spec_l4Text.l0 k (x0.extract ((rd x1 x6) : Int).toNat x0.size) x1 (x5 ++ t612) (wrap64 (x6 + 1))) else (none))) else (none)) else (none)))) else (none)) else ((spec_l4Piece.f k x0).bind fun t609 => (if x5.size + t609.size ≤ 9223372036854775807 then (if (x5 ++ t609).size + 1 ≤ 9223372036854775807 then (if ((x5 ++ t609) ++ (⟨#[48]⟩ : BA)).size + 2 ≤ 9223372036854775807 then (if (((x5 ++ t609) ++ (⟨#[48]⟩ : BA)) ++ (⟨#[13, 10]⟩ : BA)).size + 2 ≤ 9223372036854775807 then (some ((((x5 ++ t609) ++ (⟨#[48]⟩ : BA)) ++ (⟨#[13, 10]⟩ : BA)) ++ (⟨#[13, 10]⟩ : BA))) else (none)) else (none)) else (none)) else (none)))
def spec_l4Text.f (k : Nat) (a0 : ByteArray) (l1 : List Int) : Option (ByteArray) := spec_l4Text.l0 k a0 l1 (⟨#[]⟩ : BA) 0

theorem spec_l4Text.calls (k : Nat) (a0 : ByteArray) (A1 : Option Addr) (c1 : Nat) (l1 : List Int) (r : ByteArray) (w : World) (hr1 : Kd.C (Kd.int .i64) w A1 l1.length l1) (hc1 : l1.length ≤ c1) (h : spec_l4Text.f k a0 l1 = some r) :
  Calls Tryz.prog 74 #[.string a0, .slice A1 l1.length c1] w fun e w' => e = .returned (.string r) ∧ Below w.heap.size w w' := by
 have HR1 := aK hr1; have HC1 := aK hc1; clear hr1 hc1; have HB := aK (Below.refl w.heap.size w); have H : (spec_l4Text.l0 k a0 l1 (⟨#[]⟩ : BA) 0) = some r := h; clear h; have H' := aK H; clear H; go_enter Tryz.func74, Tryz.ntmps74
 go_wp2
 go_loopg [0, 5, 6] k (fun kq v0 v5 v6 w' => ∃ (x0_1 : ByteArray) (x5_1 : ByteArray) (x6_1 : Int), v0 = .string x0_1 ∧ v5 = .string x5_1 ∧ v6 = .int .i64 x6_1 ∧ Aside0 (spec_l4Text.l0 kq x0_1 l1 x5_1 x6_1 = some r) ∧ Aside0 (kq ≤ k) ∧ Aside0 (Below w.heap.size w w'))
 case atStart => exact ⟨(a0), ((⟨#[]⟩ : BA)), (0), q3_, q3_, q3_, H', ⟨Nat.le_refl _⟩, ⟨q1_⟩⟩
 case round =>
  clear H'; (try clear c1); (try clear p2); obtain ⟨x0_1, x5_1, x6_1, rfl, rfl, rfl, HA, HK1, HB⟩ := hrel; cases gk with
  | zero => exact absurd HA.1 (by simp [spec_l4Text.l0])
  | succ k1 =>
   have H := HA.1; clear HA; simp only [spec_l4Text.l0] at H; by_cases c3 : x6_1 < (l1.length : Int)
   ·rw [if_pos c3] at H; have c3b0 := decide_eq_true c3; clear c3; by_cases c4 : 0 ≤ x6_1
    ·rw [if_pos c4] at H; have c4b0 := decide_eq_true c4; clear c4; by_cases c5 : (rd l1 x6_1) < 1
     ·rw [if_pos c5] at H; have c5b0 := decide_eq_true c5; clear c5; have H' := aK H; clear H; have p610 : 0 ≤ (x6_1 : Int) := of_decide_eq_true q6_; have q610 : x6_1 < (l1.length : Int) := of_decide_eq_true q6_; obtain ⟨ad610, e610, hx610_0⟩ := Kd.at_int HR1.1 x6_1 p610 q610; cases e610
      replace hx610_0 := (HB.1.cell (World.block_lt_of_cell? w _ hx610_0)).trans hx610_0; replace p610 := eq_true p610; replace q610 := eq_true q610; go_wp2
      go_roundg k1
      case measure => have := HK1.1; omega
      case rel => exact ⟨(x0_1), (x5_1), (wrap64 (x6_1 + 1)), q3_, q3_, q3_, H', ⟨q82_⟩, ⟨q1_⟩⟩
     ·rw [if_neg c5] at H; have c5b0 := decide_eq_false c5; clear c5; by_cases c6 : (rd l1 x6_1) > (x0_1.size : Int)
      ·rw [if_pos c6] at H; have c6b0 : decide ((x0_1.size : Int) < (rd l1 x6_1)) = true := decide_eq_true c6; clear c6; by_cases c7 : 0 ≤ (x0_1.size : Int)
       ·rw [if_pos c7] at H; have c7b0 := eq_true c7; have c7b1 := decide_eq_true c7; clear c7; by_cases c8 : (x0_1.size : Int) ≤ (x0_1.size : Int)
        ·rw [if_pos c8] at H; have c8b0 := eq_true c8; have c8b1 := decide_eq_true c8; clear c8; replace H := oB H; obtain ⟨t611, A9, H⟩ := H; (try dsimp only at H); by_cases c10 : x5_1.size + t611.size ≤ 9223372036854775807
         ·rw [if_pos c10] at H; have c10b0 := eq_true c10; have c10b1 := decide_eq_true c10; try have c10b2 : (9223372036854775807 < x5_1.size + t611.size) = False := eq_false (Nat.not_lt.2 c10)
          have c11b0 := eq_true (of_decide_eq_true q6_ : 0 ≤ (x0_1.size : Int)); have c12b0 := eq_true (of_decide_eq_true q6_ : (x0_1.size : Int) ≤ (x0_1.size : Int)); have H' := aK H; clear H; have p610 : 0 ≤ (x6_1 : Int) := of_decide_eq_true q6_; have q610 : x6_1 < (l1.length : Int) := of_decide_eq_true q6_; obtain ⟨ad610, e610, hx610_0⟩ := Kd.at_int HR1.1 x6_1 p610 q610; cases e610
          replace hx610_0 := (HB.1.cell (World.block_lt_of_cell? w _ hx610_0)).trans hx610_0; replace p610 := eq_true p610; replace q610 := eq_true q610; go_wp2_with (first | ((with_reducible refine gate_callee (f := 100) rfl ?_); refine goesL_ (some 30) rfl rfl Tryz.func100 (by kernel_rfl) rfl #[.string (x0_1.extract 0 x0_1.size)] rfl (by (try simp only [List.map_toArray, List.map_cons, List.map_nil]); first | done | rfl | (simp only [List.length_drop, List.length_take]; rfl) | (simp only [ByteArray.extract_zero_size]; rfl)) ?_; (with_reducible refine (spec_l4Piece.calls k1 (x0_1.extract 0 x0_1.size) t611 _ A9.1).mono ?_); rintro e w13 ⟨rfl, hb⟩; refine ⟨_, rfl, ?_⟩; replace HB := aK (below_step q1_ hb); clear hb))
          go_roundg k1
          case measure => have := HK1.1; omega
          case rel => exact ⟨(x0_1.extract x0_1.size x0_1.size), (x5_1 ++ t611), (wrap64 (x6_1 + 1)), q3_, q3_, q3_, H', ⟨q82_⟩, ⟨q1_⟩⟩
         ·rw [if_neg c10] at H; exact absurd H (by simp)
        ·rw [if_neg c8] at H; exact absurd H (by simp)
       ·rw [if_neg c7] at H; exact absurd H (by simp)
      ·rw [if_neg c6] at H; have c6b0 : decide ((x0_1.size : Int) < (rd l1 x6_1)) = false := decide_eq_false c6; clear c6; by_cases c14 : 0 ≤ (rd l1 x6_1)
       ·rw [if_pos c14] at H; have c14b0 := eq_true c14; have c14b1 := decide_eq_true c14; clear c14; by_cases c15 : (rd l1 x6_1) ≤ (x0_1.size : Int)
        ·rw [if_pos c15] at H; have c15b0 := eq_true c15; have c15b1 := decide_eq_true c15; clear c15; replace H := oB H; obtain ⟨t612, A16, H⟩ := H; (try dsimp only at H); by_cases c17 : x5_1.size + t612.size ≤ 9223372036854775807
         ·rw [if_pos c17] at H; have c17b0 := eq_true c17; have c17b1 := decide_eq_true c17; try have c17b2 : (9223372036854775807 < x5_1.size + t612.size) = False := eq_false (Nat.not_lt.2 c17)
          have c18b0 := eq_true (of_decide_eq_true q6_ : 0 ≤ (rd l1 x6_1)); have c19b0 := eq_true (of_decide_eq_true q6_ : (rd l1 x6_1) ≤ (x0_1.size : Int)); have H' := aK H; clear H; have p610 : 0 ≤ (x6_1 : Int) := of_decide_eq_true q6_; have q610 : x6_1 < (l1.length : Int) := of_decide_eq_true q6_; obtain ⟨ad610, e610, hx610_0⟩ := Kd.at_int HR1.1 x6_1 p610 q610; cases e610
          replace hx610_0 := (HB.1.cell (World.block_lt_of_cell? w _ hx610_0)).trans hx610_0; replace p610 := eq_true p610; replace q610 := eq_true q610; go_wp2_with (first | ((with_reducible refine gate_callee (f := 100) rfl ?_); refine goesL_ (some 30) rfl rfl Tryz.func100 (by kernel_rfl) rfl #[.string (x0_1.extract 0 ((rd l1 x6_1) : Int).toNat)] rfl q2_ ?_; (with_reducible refine (spec_l4Piece.calls k1 (x0_1.extract 0 ((rd l1 x6_1) : Int).toNat) t612 _ A16.1).mono ?_); rintro e w20 ⟨rfl, hb⟩; refine ⟨_, rfl, ?_⟩; replace HB := aK (below_step q1_ hb); clear hb))
          go_roundg k1
          case measure => have := HK1.1; omega
          case rel => exact ⟨(x0_1.extract ((rd l1 x6_1) : Int).toNat x0_1.size), (x5_1 ++ t612), (wrap64 (x6_1 + 1)), q3_, q3_, q3_, H', ⟨q82_⟩, ⟨q1_⟩⟩
         ·rw [if_neg c17] at H; exact absurd H (by simp)
        ·rw [if_neg c15] at H; exact absurd H (by simp)
       ·rw [if_neg c14] at H; exact absurd H (by simp)
    ·rw [if_neg c4] at H; exact absurd H (by simp)
   ·rw [if_neg c3] at H; have c3b0 := decide_eq_false c3; clear c3; replace H := oB H; obtain ⟨t609, A21, H⟩ := H; (try dsimp only at H); by_cases c22 : x5_1.size + t609.size ≤ 9223372036854775807
    ·rw [if_pos c22] at H; have c22b0 := eq_true c22; have c22b1 := decide_eq_true c22; try have c22b2 : (9223372036854775807 < x5_1.size + t609.size) = False := eq_false (Nat.not_lt.2 c22)
     by_cases c23 : (x5_1 ++ t609).size + 1 ≤ 9223372036854775807
     ·rw [if_pos c23] at H; have c23b0 := eq_true c23; have c23b1 := decide_eq_true c23; try have c23b2 : (9223372036854775807 < (x5_1 ++ t609).size + 1) = False := eq_false (Nat.not_lt.2 c23)
      have c23s : x5_1.size + t609.size + 1 ≤ 9223372036854775807 := by have h_ := c23; simp only [ByteArray.size_append] at h_; exact h_
      have c23s0 := eq_true c23s; have c23s1 : decide (x5_1.size + t609.size + 1 ≤ 9223372036854775807) = true := decide_eq_true c23s; have c23s2 : (9223372036854775807 < x5_1.size + t609.size + 1) = False := eq_false (Nat.not_lt.2 c23s); by_cases c24 : ((x5_1 ++ t609) ++ (⟨#[48]⟩ : BA)).size + 2 ≤ 9223372036854775807
      ·rw [if_pos c24] at H; have c24b0 := eq_true c24; have c24b1 := decide_eq_true c24; try have c24b2 : (9223372036854775807 < ((x5_1 ++ t609) ++ (⟨#[48]⟩ : BA)).size + 2) = False := eq_false (Nat.not_lt.2 c24)
       have c24s : x5_1.size + t609.size + 1 + 2 ≤ 9223372036854775807 := by have h_ := c24; simp only [ByteArray.size_append] at h_; exact h_
       have c24s0 := eq_true c24s; have c24s1 : decide (x5_1.size + t609.size + 1 + 2 ≤ 9223372036854775807) = true := decide_eq_true c24s; have c24s2 : (9223372036854775807 < x5_1.size + t609.size + 1 + 2) = False := eq_false (Nat.not_lt.2 c24s); by_cases c25 : (((x5_1 ++ t609) ++ (⟨#[48]⟩ : BA)) ++ (⟨#[13, 10]⟩ : BA)).size + 2 ≤ 9223372036854775807
       ·rw [if_pos c25] at H; have c25b0 := eq_true c25; have c25b1 := decide_eq_true c25; try have c25b2 : (9223372036854775807 < (((x5_1 ++ t609) ++ (⟨#[48]⟩ : BA)) ++ (⟨#[13, 10]⟩ : BA)).size + 2) = False := eq_false (Nat.not_lt.2 c25)
        have c25s : x5_1.size + t609.size + 1 + 2 + 2 ≤ 9223372036854775807 := by have h_ := c25; simp only [ByteArray.size_append] at h_; exact h_
        have c25s0 := eq_true c25s; have c25s1 : decide (x5_1.size + t609.size + 1 + 2 + 2 ≤ 9223372036854775807) = true := decide_eq_true c25s; have c25s2 : (9223372036854775807 < x5_1.size + t609.size + 1 + 2 + 2) = False := eq_false (Nat.not_lt.2 c25s); obtain rfl := Option.some.inj H; go_wp2_with (first | ((with_reducible refine gate_callee (f := 100) rfl ?_); refine goesL_ (some 37) rfl rfl Tryz.func100 (by kernel_rfl) rfl #[.string x0_1] rfl q2_ ?_; (with_reducible refine (spec_l4Piece.calls k1 x0_1 t609 _ A21.1).mono ?_); rintro e w26 ⟨rfl, hb⟩; refine ⟨_, rfl, ?_⟩; replace HB := aK (below_step q1_ hb); clear hb))
        go_ret
        exact ⟨q9_, q1_⟩
       ·rw [if_neg c25] at H; exact absurd H (by simp)
      ·rw [if_neg c24] at H; exact absurd H (by simp)
     ·rw [if_neg c23] at H; exact absurd H (by simp)
    ·rw [if_neg c22] at H; exact absurd H (by simp)

def spec_PutChunked.f (k : Nat) (a0_0 : ByteArray) (a0_1 : ByteArray) (l0_2 : List (S113)) (a0_3 : ByteArray) (l1 : List Int) : Option (List Int) := (spec_l4Text.f k a0_3 l1).bind fun t614 => ((spec_l3Put.f k a0_0 a0_1 l0_2 a0_3 (⟨#[116, 114, 97, 110, 115, 102, 101, 114, 45, 101, 110, 99, 111, 100, 105, 110, 103, 58, 32, 99, 104, 117, 110, 107, 101, 100, 13, 10]⟩ : BA) t614).bind fun t615 => (some t615))

theorem spec_PutChunked.calls (k : Nat) (a0_0 : ByteArray) (a0_1 : ByteArray) (A0_2 : Option Addr) (c0_2 : Nat) (l0_2 : List (S113)) (a0_3 : ByteArray) (A1 : Option Addr) (c1 : Nat) (l1 : List Int) (r : List Int) (w : World) (hr0_2 : Kd.C k113 w A0_2 l0_2.length l0_2) (hc0_2 : l0_2.length ≤ c0_2) (hr1 : Kd.C (Kd.int .i64) w A1 l1.length l1) (hc1 : l1.length ≤ c1) (h : spec_PutChunked.f k a0_0 a0_1 l0_2 a0_3 l1 = some r) :
  Calls Tryz.prog 40 #[.agg #[.string a0_0, .string a0_1, .slice A0_2 l0_2.length c0_2, .string a0_3], .slice A1 l1.length c1] w fun e w' => ∃ v0_ : Value, e = .returned (v0_) ∧ Kd.R (Kd.int .u8) 5 w' w.heap.size (fun _ => True) v0_ r ∧ Below w.heap.size w w' := by
 have hu53 := Tryz.underlying53; have HR0_2 := aK hr0_2; have HC0_2 := aK hc0_2; clear hr0_2 hc0_2; have HR1 := aK hr1; have HC1 := aK hc1; clear hr1 hc1; have HB := aK (Below.refl w.heap.size w); have H := h; clear h; unfold spec_PutChunked.f at H
 replace H := oB H; obtain ⟨t614, A3, H⟩ := H; (try dsimp only at H); replace H := oB H; obtain ⟨t615, A4, H⟩ := H; (try dsimp only at H); obtain rfl := Option.some.inj H; go_enter Tryz.func40, Tryz.ntmps40
 try go_wp2_with (first | ((with_reducible refine gate_dst (N := 2) rfl ?_); refine box_event ?hg (N := 2) ?hd (cs := #[.string a0_0, .string a0_1, .slice A0_2 l0_2.length c0_2, .string a0_3]) (t := 53) ?hr ?_; (case hd => rfl); (case hg => rfl); (case hr => exact q20_); intro gb613 hg w5 hbox hb; have BK613 := aK (hbox); have GW613 := aK ((q31_ : w.heap.size ≤ gb613)); have GE613 := aK ((q31_ : w.heap.size ≤ gb613)); replace HB := aK (below_step q1_ hb); clear hb hbox hg))
 replace BK613 := aK (bD_ BK613.1); replace HB := aK (dB_ HB.1); refine start_ (n := 7) (S := fun w' => w'.cell? ⟨gb613, 0, none⟩ = some (.string a0_0) ∧ w'.cell? ⟨gb613, 1, none⟩ = some (.string a0_1) ∧ w'.cell? ⟨gb613, 2, none⟩ = some (.slice A0_2 l0_2.length c0_2) ∧ w'.cell? ⟨gb613, 3, none⟩ = some (.string a0_3)) (ds := []) #[Z, Z, Z, Z, Z, Z, Z] (by kernel_rfl) rfl rfl ⟨(bc_ BK613.1 0).trans rfl, (bc_ BK613.1 1).trans rfl, (bc_ BK613.1 2).trans rfl, (bc_ BK613.1 3).trans rfl⟩ (fun hHeld => ?_); generalize w5.drew = w6 at BK613 HB hHeld ⊢; refine pk_ 1 (some 6) ?_; refine pk_ 3 (some 8) ?_; refine tk_ 0 (some 5) hHeld ?_; refine tk_ 2 (some 7) hHeld ?_; refine ok_ 4 (some 9) (fun K hK => ?_); refine goes_ Tryz.func74 (by kernel_rfl) rfl #[.string a0_3, .slice A1 l1.length c1] (by rfl) rfl rfl q2_ ?_; with_reducible refine (spec_l4Text.calls k a0_3 _ _ l1 t614 _ ?side1 ?side2 A3.1).mono ?_
 (case side1 => exact q162_); (case side2 => exact HC1.1); rintro e w7 ⟨rfl, hb⟩; refine ⟨_, rfl, ?_⟩; replace BK613 := aK (bbk_ BK613.1 hb); replace HB := aK (below_step q101_ hb); clear hb; refine hK.out _ _ ⟨(bc_ BK613.1 0).trans rfl, (bc_ BK613.1 1).trans rfl, (bc_ BK613.1 2).trans rfl, (bc_ BK613.1 3).trans rfl⟩ (fun hHeld => ?_); clear hK K; refine nz_ (some 9) ?_; refine ok_ 5 (some 10) (fun K hK => ?_); refine goes_ Tryz.func72 (by kernel_rfl) rfl #[.agg #[.string a0_0, .string a0_1, .slice A0_2 l0_2.length c0_2, .string a0_3], .string (⟨#[116, 114, 97, 110, 115, 102, 101, 114, 45, 101, 110, 99, 111, 100, 105, 110, 103, 58, 32, 99, 104, 117, 110, 107, 101, 100, 13, 10]⟩ : BA), .string t614] (by rfl) rfl rfl q2_ ?_; with_reducible refine (spec_l3Put.calls k a0_0 a0_1 _ _ l0_2 a0_3 (⟨#[116, 114, 97, 110, 115, 102, 101, 114, 45, 101, 110, 99, 111, 100, 105, 110, 103, 58, 32, 99, 104, 117, 110, 107, 101, 100, 13, 10]⟩ : BA) t614 t615 _ ?side1 ?side2 A4.1).mono ?_
 (case side1 => exact q22_); (case side2 => exact q128_); rintro e w8 ⟨v616, rfl, ho0, hb⟩; refine ⟨_, rfl, ?_⟩; have HO617 := aK (Kd.R_lower ho0 (below_size q101_)); replace BK613 := aK (bbk_ BK613.1 hb); replace HB := aK (below_step q101_ hb); clear hb ho0; refine hK.out _ _ ⟨(bc_ BK613.1 0).trans rfl, (bc_ BK613.1 1).trans rfl, (bc_ BK613.1 2).trans rfl, (bc_ BK613.1 3).trans rfl⟩ (fun hHeld => ?_); clear hK K; refine nz_ (some 10) ?_; refine pk_ 6 (some 4) ?_; refine done_ (by kernel_rfl) ?_; try go_wp2
 go_ret
 exact ⟨_, q9_, by (with_reducible repeat (first | apply rA_ | apply rN_ | apply rD_)); exact HO617.1, q101_⟩

mutual
def spec_HeadEnd.l0 : Nat → List Int → Int → Option (Int)
 | 0, _, _ => none
 | k + 1, x0, x3 => if (wrap64 (x3 + 3)) < (x0.length : Int) then (spec_HeadEnd.j1 k x0 x3 (decide ((wrap64 (x3 + 3)) < 400))) else (spec_HeadEnd.j1 k x0 x3 false)
def spec_HeadEnd.j1 : Nat → List Int → Int → Bool → Option (Int)
 | 0, _, _, _ => none
 | k + 1, x0, x3, x13 => if x13 = true then (if 0 ≤ x3 then (if x3 ≤ (wrap64 (x3 + 4)) then (if (wrap64 (x3 + 4)) ≤ (x0.length : Int) then (if (strOfNums ((x0.take ((wrap64 (x3 + 4)) : Int).toNat).drop (x3 : Int).toNat)).toList = ([13, 10, 13, 10] : List UInt8) then (some (wrap64 (x3 + 4))) else (spec_HeadEnd.l0 k x0 (wrap64 (x3 + 1)))) else (none)) else (none)) else (none)) else (some (-1))
end
def spec_HeadEnd.f (k : Nat) (l0 : List Int) : Option (Int) := spec_HeadEnd.l0 k l0 0

theorem spec_HeadEnd.calls (k : Nat) (A0 : Option Addr) (c0 : Nat) (l0 : List Int) (r : Int) (w : World) (hr0 : Kd.C (Kd.int .u8) w A0 l0.length l0) (hc0 : l0.length ≤ c0) (h : spec_HeadEnd.f k l0 = some r) :
  Calls Tryz.prog 42 #[.slice A0 l0.length c0] w fun e w' => e = .returned (.int .i64 r) ∧ Drawn0 w w' := by
 have HR0 := aK hr0; have HC0 := aK hc0; clear hr0 hc0; have H : (spec_HeadEnd.l0 k l0 0) = some r := h; clear h; have H' := aK H; clear H; go_enter Tryz.func42, Tryz.ntmps42
 go_wp2
 go_loopg [3] k (fun kq v3 w' => ∃ (x3_1 : Int), v3 = .int .i64 x3_1 ∧ Aside0 (spec_HeadEnd.l0 kq l0 x3_1 = some r) ∧ Aside0 (kq ≤ k) ∧ Drawn0 w w')
 case atStart => exact ⟨(0), q3_, H', ⟨Nat.le_refl _⟩, q14_⟩
 case round =>
  clear H'; obtain ⟨x3_1, rfl, HA, HK1, ⟨m1, rfl⟩⟩ := hrel; cases gk with
  | zero => exact absurd HA.1 (by simp [spec_HeadEnd.l0])
  | succ k1 =>
   have H := HA.1; clear HA; simp only [spec_HeadEnd.l0] at H; have HC2 := aK H; clear H; go_upto_region 2 with (fail)
   go_cut [13] (fun v13 wc => ∃ (kq : Nat) (x13_1 : Bool), v13 = .bool x13_1 ∧ Aside0 (spec_HeadEnd.j1 kq l0 x3_1 x13_1 = some r) ∧ Aside0 (kq ≤ k1) ∧ Drawn0 w wc)
   case first =>
    have H := HC2.1; clear HC2; by_cases c3 : (wrap64 (x3_1 + 3)) < (l0.length : Int)
    ·rw [if_pos c3] at H; have c3b0 := decide_eq_true c3; clear c3; (first | rw [c3b0] | rw [c3i0] | (simp only [i64_w, i32_w]; rw [c3b0]) | skip); have H' := aK H; clear H; go_wp2
     go_meet
     case rel => exact ⟨_, (decide ((wrap64 (x3_1 + 3)) < 400)), q3_, H', ⟨q95_⟩, q14_⟩
    ·rw [if_neg c3] at H; have c3b0 := decide_eq_false c3; clear c3; (first | rw [c3b0] | rw [c3i0] | (simp only [i64_w, i32_w]; rw [c3b0]) | skip); have H' := aK H; clear H; go_wp2
     go_meet
     case rel => exact ⟨_, (false), q3_, H', ⟨q95_⟩, q14_⟩
   case rest =>
    clear HC2; (try clear p2); (try clear c3); (try clear c3b0); obtain ⟨kq, x13_1, rfl, HA, HJ1, ⟨mc1, rfl⟩⟩ := hcut; cases kq with
    | zero => exact absurd HA.1 (by simp [spec_HeadEnd.j1])
    | succ kj1 =>
     have H := HA.1; clear HA; simp only [spec_HeadEnd.j1] at H; by_cases c4 : x13_1 = true
     ·subst c4; rw [if_pos rfl] at H; by_cases c5 : 0 ≤ x3_1
      ·rw [if_pos c5] at H; have c5b0 := eq_true c5; have c5b1 := decide_eq_true c5; clear c5; by_cases c6 : x3_1 ≤ (wrap64 (x3_1 + 4))
       ·rw [if_pos c6] at H; have c6b0 := eq_true c6; have c6b1 := decide_eq_true c6; by_cases c7 : (wrap64 (x3_1 + 4)) ≤ (l0.length : Int)
        ·rw [if_pos c7] at H; have c7b0 := eq_true c7; have c7b1 := decide_eq_true c7; by_cases c8 : (strOfNums ((l0.take ((wrap64 (x3_1 + 4)) : Int).toNat).drop (x3_1 : Int).toNat)).toList = ([13, 10, 13, 10] : List UInt8)
         ·rw [if_pos c8] at H; have c8b0 := beq_iff_eq.mpr c8; have c8b1 : ((strOfNums ((l0.take ((wrap64 (x3_1 + 4)) : Int).toNat).drop (x3_1 : Int).toNat)).toList != ([13, 10, 13, 10] : List UInt8)) = false := bne_eq_false_iff_eq.mpr c8; clear c8; obtain rfl := Option.some.inj H; obtain ⟨i09, hi09, _, hsz9, _⟩ := info_parts info5; obtain ⟨A9, hcut9, hA9, hC9⟩ := print_mid_of (P := Tryz.prog) (Value.int .u8) 0 22 5 .i64 .i64 Tryz.underlying22 hi09 hsz9 A0 c0 l0 x3_1 (wrap64 (x3_1 + 4)) (of_decide_eq_true q6_) (by first | omega | exact of_decide_eq_true q6_) (of_decide_eq_true q6_) HC0.1; have HR618 := aK (Kd.C_of_reads (h1 := fun _ => rfl) (hA9 _ (Kd.reads_of_C HR0.1))); have HC618 := aK hC9; clear hA9 hC9 hi09 hsz9; have hq_ := HR618.1; rw [show ((l0.take ((wrap64 (x3_1 + 4)) : Int).toNat).drop (x3_1 : Int).toNat).length = ((wrap64 (x3_1 + 4)).toNat - x3_1.toNat) from q174_] at hq_; have hcv10 := Kd.C_string (P := Tryz.prog) (A := A9) (c := (c0 - x3_1.toNat)) Tryz.underlying22 Tryz.underlying5 Tryz.underlying9 hq_; have hcv11 := fun nq_ : Nat => Kd.C_string (P := Tryz.prog) (A := A9) (c := (c0 - x3_1.toNat)) Tryz.underlying22 Tryz.underlying5 Tryz.underlying9 (Kd.C_drewN hq_ nq_)
          clear hq_; go_wp2
          go_ret
          exact ⟨q3_, q14_⟩
         ·rw [if_neg c8] at H; have c8b0 := beq_eq_false_iff_ne.mpr c8; have c8b1 : ((strOfNums ((l0.take ((wrap64 (x3_1 + 4)) : Int).toNat).drop (x3_1 : Int).toNat)).toList != ([13, 10, 13, 10] : List UInt8)) = true := bne_iff_ne.mpr c8; have H' := aK H; clear H; obtain ⟨i012, hi012, _, hsz12, _⟩ := info_parts info5; obtain ⟨A12, hcut12, hA12, hC12⟩ := print_mid_of (P := Tryz.prog) (Value.int .u8) 0 22 5 .i64 .i64 Tryz.underlying22 hi012 hsz12 A0 c0 l0 x3_1 (wrap64 (x3_1 + 4)) (of_decide_eq_true q6_) (by first | omega | exact of_decide_eq_true q6_) (of_decide_eq_true q6_) HC0.1; have HR618 := aK (Kd.C_of_reads (h1 := fun _ => rfl) (hA12 _ (Kd.reads_of_C HR0.1))); have HC618 := aK hC12; clear hA12 hC12 hi012 hsz12; have hq_ := HR618.1; rw [show ((l0.take ((wrap64 (x3_1 + 4)) : Int).toNat).drop (x3_1 : Int).toNat).length = ((wrap64 (x3_1 + 4)).toNat - x3_1.toNat) from q174_] at hq_; have hcv13 := Kd.C_string (P := Tryz.prog) (A := A12) (c := (c0 - x3_1.toNat)) Tryz.underlying22 Tryz.underlying5 Tryz.underlying9 hq_; have hcv14 := fun nq_ : Nat => Kd.C_string (P := Tryz.prog) (A := A12) (c := (c0 - x3_1.toNat)) Tryz.underlying22 Tryz.underlying5 Tryz.underlying9 (Kd.C_drewN hq_ nq_)
          clear hq_; go_wp2
          go_roundg kj1
          case measure => have := HK1.1; have := HJ1.1; omega
          case rel => exact ⟨(wrap64 (x3_1 + 1)), q3_, H', ⟨q185_⟩, q14_⟩
        ·rw [if_neg c7] at H; exact absurd H (by simp)
       ·rw [if_neg c6] at H; exact absurd H (by simp)
      ·rw [if_neg c5] at H; exact absurd H (by simp)
     ·replace c4 := Bool.eq_false_iff.mpr c4; subst c4; rw [if_neg (show ¬ (false = true) by decide)] at H; obtain rfl := Option.some.inj H; go_wp2
      go_ret
      exact ⟨q3_, q14_⟩

end Go.Proofs.YtaajhdljdmbhhaaGreatDoor.GFnPipes
