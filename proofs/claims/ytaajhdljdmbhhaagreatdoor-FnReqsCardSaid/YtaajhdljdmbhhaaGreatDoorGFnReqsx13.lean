-- by gprint.py (this session's program over the kit's print.py) (a twelfth state) out of the translation. Not trusted: Lean checks it.
import Derived.Test.YtaajhdljdmbhhaaGreatDoorGFnReqsx0
import Derived.Test.YtaajhdljdmbhhaaGreatDoorGFnReqsx7
import Derived.Test.YtaajhdljdmbhhaaGreatDoorGFnReqsx12
namespace Go.Proofs.YtaajhdljdmbhhaaGreatDoor.GFnReqs
open Go.RowKit Go.Proofs.YtaajhdljdmbhhaaGreatDoorW.PrintWords Go.Proofs.YtaajhdljdmbhhaaGreatDoorW.PrintLast Go.Proofs.YtaajhdljdmbhhaaGreatDoorW.PrintMore
attribute [local go_sem] max2_int min2_int max_two min_two   -- for this text's walks alone
set_option linter.unusedVariables false
set_option linter.unusedSimpArgs false
set_option maxRecDepth 100000
set_option maxHeartbeats 8000000

def spec_l4Text.l0 : Nat → ByteArray → List Int → ByteArray → Int → Option (ByteArray)
 | 0, _, _, _, _ => none
 | k + 1, x0, x1, x5, x6 => if x6 < (x1.length : Int) then (if 0 ≤ x6 then (if (rd x1 x6) < 1 then (spec_l4Text.l0 k x0 x1 x5 (wrap64 (x6 + 1))) else (if (rd x1 x6) > (x0.size : Int) then (if 0 ≤ (x0.size : Int) then (if (x0.size : Int) ≤ (x0.size : Int) then ((spec_l4Piece.f k (x0.extract 0 x0.size)).bind fun t479 => (if x5.size + t479.size ≤ 9223372036854775807 then (spec_l4Text.l0 k (x0.extract x0.size x0.size) x1 (x5 ++ t479) (wrap64 (x6 + 1))) else (none))) else (none)) else (none)) else (if 0 ≤ (rd x1 x6) then (if (rd x1 x6) ≤ (x0.size : Int) then ((spec_l4Piece.f k (x0.extract 0 ((rd x1 x6) : Int).toNat)).bind fun t480 => (if x5.size + t480.size ≤ 9223372036854775807 then (spec_l4Text.l0 k (x0.extract ((rd x1 x6) : Int).toNat x0.size) x1 (x5 ++ t480) (wrap64 (x6 + 1))) else (none))) else (none)) else (none)))) else (none)) else ((spec_l4Piece.f k x0).bind fun t477 => (if x5.size + t477.size ≤ 9223372036854775807 then (if (x5 ++ t477).size + 1 ≤ 9223372036854775807 then (if ((x5 ++ t477) ++ (⟨#[48]⟩ : BA)).size + 2 ≤ 9223372036854775807 then (if (((x5 ++ t477) ++ (⟨#[48]⟩ : BA)) ++ (⟨#[13, 10]⟩ : BA)).size + 2 ≤ 9223372036854775807 then (some ((((x5 ++ t477) ++ (⟨#[48]⟩ : BA)) ++ (⟨#[13, 10]⟩ : BA)) ++ (⟨#[13, 10]⟩ : BA))) else (none)) else (none)) else (none)) else (none)))
def spec_l4Text.f (k : Nat) (a0 : ByteArray) (l1 : List Int) : Option (ByteArray) := spec_l4Text.l0 k a0 l1 (⟨#[]⟩ : BA) 0

theorem spec_l4Text.calls (k : Nat) (a0 : ByteArray) (A1 : Option Addr) (c1 : Nat) (l1 : List Int) (r : ByteArray) (w : World) (hr1 : Kd.C (Kd.int .i64) w A1 l1.length l1) (hc1 : l1.length ≤ c1) (h : spec_l4Text.f k a0 l1 = some r) :
  Calls Tryz.prog 74 #[.string a0, .slice A1 l1.length c1] w fun e w' => e = .returned (.string r) ∧ Below w.heap.size w w' := by
 have HR1 := aK hr1; have HC1 := aK hc1; clear hr1 hc1; have HB := aK (Below.refl w.heap.size w); have H : (spec_l4Text.l0 k a0 l1 (⟨#[]⟩ : BA) 0) = some r := h; clear h; have H' := aK H; clear H; go_enter Tryz.func74, Tryz.ntmps74
 go_wp2
 go_loopg [0, 5, 6] k (fun kq v0 v5 v6 w' => ∃ (x0_1 : ByteArray) (x5_1 : ByteArray) (x6_1 : Int), v0 = .string x0_1 ∧ v5 = .string x5_1 ∧ v6 = .int .i64 x6_1 ∧ Aside0 (spec_l4Text.l0 kq x0_1 l1 x5_1 x6_1 = some r) ∧ Aside0 (kq ≤ k) ∧ Aside0 (Below w.heap.size w w'))
 case atStart => exact ⟨(a0), ((⟨#[]⟩ : BA)), (0), q3_, q3_, q3_, H', ⟨Nat.le_refl _⟩, ⟨q1_⟩⟩
 case round =>
  clear H'; (try clear c1); (try clear p2); obtain ⟨x0_1, x5_1, x6_1, rfl, rfl, rfl, HA, HK1, HB⟩ := hrel; cases gk with
  | zero => exact absurd HA.1 (by simp [spec_l4Text.l0])
  | succ k1 =>
   have H := HA.1; clear HA; simp only [spec_l4Text.l0] at H; by_cases c3 : x6_1 < (l1.length : Int)
   ·rw [if_pos c3] at H; have c3b0 := decide_eq_true c3; clear c3; by_cases c4 : 0 ≤ x6_1
    ·rw [if_pos c4] at H; have c4b0 := decide_eq_true c4; clear c4; by_cases c5 : (rd l1 x6_1) < 1
     ·rw [if_pos c5] at H; have c5b0 := decide_eq_true c5; clear c5; have H' := aK H; clear H; have p478 : 0 ≤ (x6_1 : Int) := of_decide_eq_true q4_; have q478 : x6_1 < (l1.length : Int) := of_decide_eq_true q4_; obtain ⟨ad478, e478, hx478_0⟩ := Kd.at_int HR1.1 x6_1 p478 q478; cases e478
      replace hx478_0 := (HB.1.cell (World.block_lt_of_cell? w _ hx478_0)).trans hx478_0; replace p478 := eq_true p478; replace q478 := eq_true q478; go_wp2
      go_roundg k1
      case measure => have := HK1.1; omega
      case rel => exact ⟨(x0_1), (x5_1), (wrap64 (x6_1 + 1)), q3_, q3_, q3_, H', ⟨q83_⟩, ⟨q1_⟩⟩
     ·rw [if_neg c5] at H; have c5b0 := decide_eq_false c5; clear c5; by_cases c6 : (rd l1 x6_1) > (x0_1.size : Int)
      ·rw [if_pos c6] at H; have c6b0 : decide ((x0_1.size : Int) < (rd l1 x6_1)) = true := decide_eq_true c6; clear c6; by_cases c7 : 0 ≤ (x0_1.size : Int)
       ·rw [if_pos c7] at H; have c7b0 := eq_true c7; have c7b1 := decide_eq_true c7; clear c7; by_cases c8 : (x0_1.size : Int) ≤ (x0_1.size : Int)
        ·rw [if_pos c8] at H; have c8b0 := eq_true c8; have c8b1 := decide_eq_true c8; clear c8; replace H := oB H; obtain ⟨t479, A9, H⟩ := H; (try dsimp only at H); by_cases c10 : x5_1.size + t479.size ≤ 9223372036854775807
         ·rw [if_pos c10] at H; have c10b0 := eq_true c10; have c10b1 := decide_eq_true c10; try have c10b2 : (9223372036854775807 < x5_1.size + t479.size) = False := eq_false (Nat.not_lt.2 c10)
          have c11b0 := eq_true (of_decide_eq_true q4_ : 0 ≤ (x0_1.size : Int)); have c12b0 := eq_true (of_decide_eq_true q4_ : (x0_1.size : Int) ≤ (x0_1.size : Int)); have H' := aK H; clear H; have p478 : 0 ≤ (x6_1 : Int) := of_decide_eq_true q4_; have q478 : x6_1 < (l1.length : Int) := of_decide_eq_true q4_; obtain ⟨ad478, e478, hx478_0⟩ := Kd.at_int HR1.1 x6_1 p478 q478; cases e478
          replace hx478_0 := (HB.1.cell (World.block_lt_of_cell? w _ hx478_0)).trans hx478_0; replace p478 := eq_true p478; replace q478 := eq_true q478; go_wp2_with (first | ((with_reducible refine gate_callee (f := 100) rfl ?_); refine goesL_ (some 30) rfl rfl Tryz.func100 (by kernel_rfl) rfl #[.string (x0_1.extract 0 x0_1.size)] rfl (by (try simp only [List.map_toArray, List.map_cons, List.map_nil]); first | done | rfl | (simp only [List.length_drop, List.length_take]; rfl) | (simp only [ByteArray.extract_zero_size]; rfl)) ?_; (with_reducible refine (spec_l4Piece.calls k1 (x0_1.extract 0 x0_1.size) t479 _ A9.1).mono ?_); rintro e w13 ⟨rfl, hb⟩; refine ⟨_, rfl, ?_⟩; replace HB := aK (below_step q1_ hb); clear hb))
          go_roundg k1
          case measure => have := HK1.1; omega
          case rel => exact ⟨(x0_1.extract x0_1.size x0_1.size), (x5_1 ++ t479), (wrap64 (x6_1 + 1)), q3_, q3_, q3_, H', ⟨q83_⟩, ⟨q1_⟩⟩
         ·rw [if_neg c10] at H; exact absurd H (by simp)
        ·rw [if_neg c8] at H; exact absurd H (by simp)
       ·rw [if_neg c7] at H; exact absurd H (by simp)
      ·rw [if_neg c6] at H; have c6b0 : decide ((x0_1.size : Int) < (rd l1 x6_1)) = false := decide_eq_false c6; clear c6; by_cases c14 : 0 ≤ (rd l1 x6_1)
       ·rw [if_pos c14] at H; have c14b0 := eq_true c14; have c14b1 := decide_eq_true c14; clear c14; by_cases c15 : (rd l1 x6_1) ≤ (x0_1.size : Int)
        ·rw [if_pos c15] at H; have c15b0 := eq_true c15; have c15b1 := decide_eq_true c15; clear c15; replace H := oB H; obtain ⟨t480, A16, H⟩ := H; (try dsimp only at H); by_cases c17 : x5_1.size + t480.size ≤ 9223372036854775807
         ·rw [if_pos c17] at H; have c17b0 := eq_true c17; have c17b1 := decide_eq_true c17; try have c17b2 : (9223372036854775807 < x5_1.size + t480.size) = False := eq_false (Nat.not_lt.2 c17)
          have c18b0 := eq_true (of_decide_eq_true q4_ : 0 ≤ (rd l1 x6_1)); have c19b0 := eq_true (of_decide_eq_true q4_ : (rd l1 x6_1) ≤ (x0_1.size : Int)); have H' := aK H; clear H; have p478 : 0 ≤ (x6_1 : Int) := of_decide_eq_true q4_; have q478 : x6_1 < (l1.length : Int) := of_decide_eq_true q4_; obtain ⟨ad478, e478, hx478_0⟩ := Kd.at_int HR1.1 x6_1 p478 q478; cases e478
          replace hx478_0 := (HB.1.cell (World.block_lt_of_cell? w _ hx478_0)).trans hx478_0; replace p478 := eq_true p478; replace q478 := eq_true q478; go_wp2_with (first | ((with_reducible refine gate_callee (f := 100) rfl ?_); refine goesL_ (some 30) rfl rfl Tryz.func100 (by kernel_rfl) rfl #[.string (x0_1.extract 0 ((rd l1 x6_1) : Int).toNat)] rfl q2_ ?_; (with_reducible refine (spec_l4Piece.calls k1 (x0_1.extract 0 ((rd l1 x6_1) : Int).toNat) t480 _ A16.1).mono ?_); rintro e w20 ⟨rfl, hb⟩; refine ⟨_, rfl, ?_⟩; replace HB := aK (below_step q1_ hb); clear hb))
          go_roundg k1
          case measure => have := HK1.1; omega
          case rel => exact ⟨(x0_1.extract ((rd l1 x6_1) : Int).toNat x0_1.size), (x5_1 ++ t480), (wrap64 (x6_1 + 1)), q3_, q3_, q3_, H', ⟨q83_⟩, ⟨q1_⟩⟩
         ·rw [if_neg c17] at H; exact absurd H (by simp)
        ·rw [if_neg c15] at H; exact absurd H (by simp)
       ·rw [if_neg c14] at H; exact absurd H (by simp)
    ·rw [if_neg c4] at H; exact absurd H (by simp)
   ·rw [if_neg c3] at H; have c3b0 := decide_eq_false c3; clear c3; replace H := oB H; obtain ⟨t477, A21, H⟩ := H; (try dsimp only at H); by_cases c22 : x5_1.size + t477.size ≤ 9223372036854775807
    ·rw [if_pos c22] at H; have c22b0 := eq_true c22; have c22b1 := decide_eq_true c22; try have c22b2 : (9223372036854775807 < x5_1.size + t477.size) = False := eq_false (Nat.not_lt.2 c22)
     by_cases c23 : (x5_1 ++ t477).size + 1 ≤ 9223372036854775807
     ·rw [if_pos c23] at H; have c23b0 := eq_true c23; have c23b1 := decide_eq_true c23; try have c23b2 : (9223372036854775807 < (x5_1 ++ t477).size + 1) = False := eq_false (Nat.not_lt.2 c23)
      have c23s : x5_1.size + t477.size + 1 ≤ 9223372036854775807 := by have h_ := c23; simp only [ByteArray.size_append] at h_; exact h_
      have c23s0 := eq_true c23s; have c23s1 : decide (x5_1.size + t477.size + 1 ≤ 9223372036854775807) = true := decide_eq_true c23s; have c23s2 : (9223372036854775807 < x5_1.size + t477.size + 1) = False := eq_false (Nat.not_lt.2 c23s); by_cases c24 : ((x5_1 ++ t477) ++ (⟨#[48]⟩ : BA)).size + 2 ≤ 9223372036854775807
      ·rw [if_pos c24] at H; have c24b0 := eq_true c24; have c24b1 := decide_eq_true c24; try have c24b2 : (9223372036854775807 < ((x5_1 ++ t477) ++ (⟨#[48]⟩ : BA)).size + 2) = False := eq_false (Nat.not_lt.2 c24)
       have c24s : x5_1.size + t477.size + 1 + 2 ≤ 9223372036854775807 := by have h_ := c24; simp only [ByteArray.size_append] at h_; exact h_
       have c24s0 := eq_true c24s; have c24s1 : decide (x5_1.size + t477.size + 1 + 2 ≤ 9223372036854775807) = true := decide_eq_true c24s; have c24s2 : (9223372036854775807 < x5_1.size + t477.size + 1 + 2) = False := eq_false (Nat.not_lt.2 c24s); by_cases c25 : (((x5_1 ++ t477) ++ (⟨#[48]⟩ : BA)) ++ (⟨#[13, 10]⟩ : BA)).size + 2 ≤ 9223372036854775807
       ·rw [if_pos c25] at H; have c25b0 := eq_true c25; have c25b1 := decide_eq_true c25; try have c25b2 : (9223372036854775807 < (((x5_1 ++ t477) ++ (⟨#[48]⟩ : BA)) ++ (⟨#[13, 10]⟩ : BA)).size + 2) = False := eq_false (Nat.not_lt.2 c25)
        have c25s : x5_1.size + t477.size + 1 + 2 + 2 ≤ 9223372036854775807 := by have h_ := c25; simp only [ByteArray.size_append] at h_; exact h_
        have c25s0 := eq_true c25s; have c25s1 : decide (x5_1.size + t477.size + 1 + 2 + 2 ≤ 9223372036854775807) = true := decide_eq_true c25s; have c25s2 : (9223372036854775807 < x5_1.size + t477.size + 1 + 2 + 2) = False := eq_false (Nat.not_lt.2 c25s); obtain rfl := Option.some.inj H; go_wp2_with (first | ((with_reducible refine gate_callee (f := 100) rfl ?_); refine goesL_ (some 37) rfl rfl Tryz.func100 (by kernel_rfl) rfl #[.string x0_1] rfl q2_ ?_; (with_reducible refine (spec_l4Piece.calls k1 x0_1 t477 _ A21.1).mono ?_); rintro e w26 ⟨rfl, hb⟩; refine ⟨_, rfl, ?_⟩; replace HB := aK (below_step q1_ hb); clear hb))
        go_ret
        exact ⟨q8_, q1_⟩
       ·rw [if_neg c25] at H; exact absurd H (by simp)
      ·rw [if_neg c24] at H; exact absurd H (by simp)
     ·rw [if_neg c23] at H; exact absurd H (by simp)
    ·rw [if_neg c22] at H; exact absurd H (by simp)

def spec_PutChunked.f (k : Nat) (a0_0 : ByteArray) (a0_1 : ByteArray) (l0_2 : List (S113)) (a0_3 : ByteArray) (l1 : List Int) : Option (List Int) := (spec_l4Text.f k a0_3 l1).bind fun t482 => ((spec_l3Put.f k a0_0 a0_1 l0_2 a0_3 (⟨#[116, 114, 97, 110, 115, 102, 101, 114, 45, 101, 110, 99, 111, 100, 105, 110, 103, 58, 32, 99, 104, 117, 110, 107, 101, 100, 13, 10]⟩ : BA) t482).bind fun t483 => (some t483))

theorem spec_PutChunked.calls (k : Nat) (a0_0 : ByteArray) (a0_1 : ByteArray) (A0_2 : Option Addr) (c0_2 : Nat) (l0_2 : List (S113)) (a0_3 : ByteArray) (A1 : Option Addr) (c1 : Nat) (l1 : List Int) (r : List Int) (w : World) (hr0_2 : Kd.C k113 w A0_2 l0_2.length l0_2) (hc0_2 : l0_2.length ≤ c0_2) (hr1 : Kd.C (Kd.int .i64) w A1 l1.length l1) (hc1 : l1.length ≤ c1) (h : spec_PutChunked.f k a0_0 a0_1 l0_2 a0_3 l1 = some r) :
  Calls Tryz.prog 40 #[.agg #[.string a0_0, .string a0_1, .slice A0_2 l0_2.length c0_2, .string a0_3], .slice A1 l1.length c1] w fun e w' => ∃ v0_ : Value, e = .returned (v0_) ∧ Kd.R (Kd.int .u8) 5 w' w.heap.size (fun _ => True) v0_ r ∧ Below w.heap.size w w' := by
 have hu53 := Tryz.underlying53; have HR0_2 := aK hr0_2; have HC0_2 := aK hc0_2; clear hr0_2 hc0_2; have HR1 := aK hr1; have HC1 := aK hc1; clear hr1 hc1; have HB := aK (Below.refl w.heap.size w); have H := h; clear h; unfold spec_PutChunked.f at H
 replace H := oB H; obtain ⟨t482, A3, H⟩ := H; (try dsimp only at H); replace H := oB H; obtain ⟨t483, A4, H⟩ := H; (try dsimp only at H); obtain rfl := Option.some.inj H; go_enter Tryz.func40, Tryz.ntmps40
 try go_wp2_with (first | ((with_reducible refine gate_dst (N := 2) rfl ?_); refine box_event ?hg (N := 2) ?hd (cs := #[.string a0_0, .string a0_1, .slice A0_2 l0_2.length c0_2, .string a0_3]) (t := 53) ?hr ?_; (case hd => rfl); (case hg => rfl); (case hr => exact q28_); intro gb481 hg w5 hbox hb; have BK481 := aK (hbox); have GW481 := aK ((q39_ : w.heap.size ≤ gb481)); have GE481 := aK ((q39_ : w.heap.size ≤ gb481)); replace HB := aK (below_step q1_ hb); clear hb hbox hg))
 replace BK481 := aK (bD_ BK481.1); replace HB := aK (dB_ HB.1); refine start_ (n := 7) (S := fun w' => w'.cell? ⟨gb481, 0, none⟩ = some (.string a0_0) ∧ w'.cell? ⟨gb481, 1, none⟩ = some (.string a0_1) ∧ w'.cell? ⟨gb481, 2, none⟩ = some (.slice A0_2 l0_2.length c0_2) ∧ w'.cell? ⟨gb481, 3, none⟩ = some (.string a0_3)) (ds := []) #[Z, Z, Z, Z, Z, Z, Z] (by kernel_rfl) rfl rfl ⟨(bc_ BK481.1 0).trans rfl, (bc_ BK481.1 1).trans rfl, (bc_ BK481.1 2).trans rfl, (bc_ BK481.1 3).trans rfl⟩ (fun hHeld => ?_); generalize w5.drew = w6 at BK481 HB hHeld ⊢; refine pk_ 1 (some 6) ?_; refine pk_ 3 (some 8) ?_; refine tk_ 0 (some 5) hHeld ?_; refine tk_ 2 (some 7) hHeld ?_; refine ok_ 4 (some 9) (fun K hK => ?_); refine goes_ Tryz.func74 (by kernel_rfl) rfl #[.string a0_3, .slice A1 l1.length c1] (by rfl) rfl rfl q2_ ?_; with_reducible refine (spec_l4Text.calls k a0_3 _ _ l1 t482 _ ?side1 ?side2 A3.1).mono ?_
 (case side1 => repeat (first | exact (Kd.C_below HR1.1 HB.1) | (with_reducible refine Kd.C_alloc ?_ _) | (with_reducible refine Kd.C_drewN ?_ _) | (with_reducible refine Kd.C_drew ?_))); (case side2 => exact HC1.1); rintro e w7 ⟨rfl, hb⟩; refine ⟨_, rfl, ?_⟩; replace BK481 := aK (bbk_ BK481.1 hb); replace HB := aK (below_step q111_ hb); clear hb; refine hK.out _ _ ⟨(bc_ BK481.1 0).trans rfl, (bc_ BK481.1 1).trans rfl, (bc_ BK481.1 2).trans rfl, (bc_ BK481.1 3).trans rfl⟩ (fun hHeld => ?_); clear hK K; refine nz_ (some 9) ?_; refine ok_ 5 (some 10) (fun K hK => ?_); refine goes_ Tryz.func72 (by kernel_rfl) rfl #[.agg #[.string a0_0, .string a0_1, .slice A0_2 l0_2.length c0_2, .string a0_3], .string (⟨#[116, 114, 97, 110, 115, 102, 101, 114, 45, 101, 110, 99, 111, 100, 105, 110, 103, 58, 32, 99, 104, 117, 110, 107, 101, 100, 13, 10]⟩ : BA), .string t482] (by rfl) rfl rfl q2_ ?_; with_reducible refine (spec_l3Put.calls k a0_0 a0_1 _ _ l0_2 a0_3 (⟨#[116, 114, 97, 110, 115, 102, 101, 114, 45, 101, 110, 99, 111, 100, 105, 110, 103, 58, 32, 99, 104, 117, 110, 107, 101, 100, 13, 10]⟩ : BA) t482 t483 _ ?side1 ?side2 A4.1).mono ?_
 (case side1 => exact q32_); (case side2 => exact q144_); rintro e w8 ⟨v484, rfl, ho0, hb⟩; refine ⟨_, rfl, ?_⟩; have HO485 := aK (Kd.R_lower ho0 (below_size q111_)); replace BK481 := aK (bbk_ BK481.1 hb); replace HB := aK (below_step q111_ hb); clear hb ho0; refine hK.out _ _ ⟨(bc_ BK481.1 0).trans rfl, (bc_ BK481.1 1).trans rfl, (bc_ BK481.1 2).trans rfl, (bc_ BK481.1 3).trans rfl⟩ (fun hHeld => ?_); clear hK K; refine nz_ (some 10) ?_; refine pk_ 6 (some 4) ?_; refine done_ (by kernel_rfl) ?_; try go_wp2
 go_ret
 exact ⟨_, q8_, by (with_reducible repeat (first | apply rA_ | apply rN_ | apply rD_)); exact HO485.1, q111_⟩

end Go.Proofs.YtaajhdljdmbhhaaGreatDoor.GFnReqs
