-- by gprint.py (this session's program over the kit's print.py) (a twelfth state) out of the translation. Not trusted: Lean checks it.
import Derived.Test.YtaajhdljdmbhhaaGreatDoorGFnExactFeedAllx0
import Derived.Test.YtaajhdljdmbhhaaGreatDoorGFnExactFeedAllx4
namespace Go.Proofs.YtaajhdljdmbhhaaGreatDoor.GFnExactFeedAll
open Go.RowKit Go.Proofs.YtaajhdljdmbhhaaGreatDoorW.PrintWords Go.Proofs.YtaajhdljdmbhhaaGreatDoorW.PrintLast Go.Proofs.YtaajhdljdmbhhaaGreatDoorW.PrintMore
attribute [local go_sem] max2_int min2_int max_two min_two max_three min_three max_four min_four   -- for this text's walks alone
set_option linter.unusedVariables false
set_option linter.unusedSimpArgs false
set_option maxRecDepth 100000
set_option maxHeartbeats 8000000

mutual
def spec_l4Size.j1 : Nat → List Int → Int → Int → Option (Int × Int × Int)
 | 0, _, _, _ => none
 | k + 1, x0, x1, x7 => if x7 = (wrap64 (x1 + 5)) then (some (0, 0, 400)) else (if x7 < (x0.length : Int) then (spec_l4Size.j2 k x0 x1 x7 true) else (spec_l4Size.j2 k x0 x1 x7 (decide (x7 > x1))))
def spec_l4Size.j2 : Nat → List Int → Int → Int → Bool → Option (Int × Int × Int)
 | 0, _, _, _, _ => none
 | k + 1, x0, x1, x7, x44 => if x44 = true then (if 0 ≤ x1 then (if x1 ≤ x7 then (if x7 ≤ (x0.length : Int) then ((spec_ParseHex.f k (strOfNums ((x0.take (x7 : Int).toNat).drop (x1 : Int).toNat))).bind fun bt154 => (if bt154.2 = true then (spec_l4Size.j3 k x0 x1 x7) else (some (0, 0, 400)))) else (none)) else (none)) else (none)) else (spec_l4Size.j3 k x0 x1 x7)
def spec_l4Size.j3 : Nat → List Int → Int → Int → Option (Int × Int × Int)
 | 0, _, _, _ => none
 | k + 1, x0, x1, x7 => if (wrap64 (x7 + 1)) ≥ (x0.length : Int) then (some (0, 0, 1)) else (if 0 ≤ (wrap64 (x7 + 1)) then (if (wrap64 (x7 + 1)) < (x0.length : Int) then (if (rd x0 (wrap64 (x7 + 1))) = 10 then (if 0 ≤ x1 then (if x1 ≤ x7 then (if x7 ≤ (x0.length : Int) then ((spec_ParseHex.f k (strOfNums ((x0.take (x7 : Int).toNat).drop (x1 : Int).toNat))).bind fun bt158 => (some (bt158.1, wrap64 (x7 + 2), 0))) else (none)) else (none)) else (none)) else (some (0, 0, 400))) else (none)) else (none))
def spec_l4Size.l0 : Nat → List Int → Int → Int → Option (Int × Int × Int)
 | 0, _, _, _ => none
 | k + 1, x0, x1, x7 => if x7 < (x0.length : Int) then (if x7 < (wrap64 (x1 + 5)) then (if 0 ≤ x7 then (if (rd x0 x7) = 13 then (spec_l4Size.j1 k x0 x1 x7) else (spec_l4Size.l0 k x0 x1 (wrap64 (x7 + 1)))) else (none)) else (spec_l4Size.j1 k x0 x1 x7)) else (spec_l4Size.j1 k x0 x1 x7)
end
def spec_l4Size.f (k : Nat) (l0 : List Int) (a1 : Int) : Option (Int × Int × Int) := spec_l4Size.l0 k l0 a1 a1

theorem spec_l4Size.calls (k : Nat) (A0 : Option Addr) (c0 : Nat) (l0 : List Int) (a1 : Int) (r1 : Int) (r2 : Int) (r3 : Int) (w : World) (hr0 : Kd.C (Kd.int .u8) w A0 l0.length l0) (hc0 : l0.length ≤ c0) (h : spec_l4Size.f k l0 a1 = some (r1, r2, r3)) :
  Calls Tryz.prog 85 #[.slice A0 l0.length c0, .int .i64 a1] w fun e w' => e = .returned (.tuple #[.int .i64 r1, .int .i64 r2, .int .i64 r3]) ∧ Drawn0 w w' := by
 have HR0 := aK hr0; have HC0 := aK hc0; clear hr0 hc0; have H : (spec_l4Size.l0 k l0 a1 a1) = some (r1, r2, r3) := h; clear h; have HC3 := aK H; clear H; go_enter Tryz.func85, Tryz.ntmps85
 go_upto_block 0 with (fail)
 go_cut [7] (fun v7 wc => ∃ (kq : Nat) (x7_2 : Int), v7 = .int .i64 x7_2 ∧ Aside0 (spec_l4Size.j1 kq l0 a1 x7_2 = some (r1, r2, r3)) ∧ Aside0 (kq ≤ k) ∧ Drawn0 w wc)
 case first =>
  have H := HC3.1; clear HC3; have H' := aK H; clear H; go_wp2
  go_loopg [7] k (fun kq v7 w' => ∃ (x7_1 : Int), v7 = .int .i64 x7_1 ∧ Aside0 (spec_l4Size.l0 kq l0 a1 x7_1 = some (r1, r2, r3)) ∧ Aside0 (kq ≤ k) ∧ Drawn0 w w')
  case atStart => exact ⟨(a1), q2_, H', ⟨Nat.le_refl _⟩, q5_⟩
  case round =>
   clear H'; (try clear p2); obtain ⟨x7_1, rfl, HA, HK1, ⟨m1, rfl⟩⟩ := hrel; cases gk with
   | zero => exact absurd HA.1 (by simp [spec_l4Size.l0])
   | succ k1 =>
    have H := HA.1; clear HA; simp only [spec_l4Size.l0] at H; by_cases c4 : x7_1 < (l0.length : Int)
    ·rw [if_pos c4] at H; have c4b0 := decide_eq_true c4; clear c4; (first | rw [c4b0] | rw [c4i0] | (simp only [i64_w, i32_w]; rw [c4b0]) | skip); by_cases c5 : x7_1 < (wrap64 (a1 + 5))
     ·rw [if_pos c5] at H; have c5b0 := decide_eq_true c5; clear c5; by_cases c6 : 0 ≤ x7_1
      ·rw [if_pos c6] at H; have c6b0 := decide_eq_true c6; clear c6; by_cases c7 : (rd l0 x7_1) = 13
       ·rw [if_pos c7] at H; have c7b0 := beq_iff_eq.mpr c7; have c7b1 : ((rd l0 x7_1) != 13) = false := bne_eq_false_iff_eq.mpr c7; clear c7; have H' := aK H; clear H; have p152 : 0 ≤ (x7_1 : Int) := of_decide_eq_true q4_; have q152 : x7_1 < (l0.length : Int) := of_decide_eq_true q4_; obtain ⟨ad152, e152, hx152_0⟩ := Kd.at_int HR0.1 x7_1 p152 q152; cases e152
        replace p152 := eq_true p152; replace q152 := eq_true q152; go_wp2
        go_meet
        case rel => exact ⟨_, (x7_1), q2_, H', ⟨q65_⟩, q5_⟩
       ·rw [if_neg c7] at H; have c7b0 := beq_eq_false_iff_ne.mpr c7; have c7b1 : ((rd l0 x7_1) != 13) = true := bne_iff_ne.mpr c7; have H' := aK H; clear H; have p152 : 0 ≤ (x7_1 : Int) := of_decide_eq_true q4_; have q152 : x7_1 < (l0.length : Int) := of_decide_eq_true q4_; obtain ⟨ad152, e152, hx152_0⟩ := Kd.at_int HR0.1 x7_1 p152 q152; cases e152
        replace p152 := eq_true p152; replace q152 := eq_true q152; go_wp2
        go_roundg k1
        case measure => have := HK1.1; omega
        case rel => exact ⟨(wrap64 (x7_1 + 1)), q2_, H', ⟨q64_⟩, q5_⟩
      ·rw [if_neg c6] at H; exact absurd H (by simp)
     ·rw [if_neg c5] at H; have c5b0 := decide_eq_false c5; clear c5; have H' := aK H; clear H; go_wp2
      go_meet
      case rel => exact ⟨_, (x7_1), q2_, H', ⟨q65_⟩, q5_⟩
    ·rw [if_neg c4] at H; have c4b0 := decide_eq_false c4; clear c4; (first | rw [c4b0] | rw [c4i0] | (simp only [i64_w, i32_w]; rw [c4b0]) | skip); have H' := aK H; clear H; go_wp2
     go_meet
     case rel => exact ⟨_, (x7_1), q2_, H', ⟨q65_⟩, q5_⟩
 case rest =>
  clear HC3; (try clear p1); (try clear q1); (try clear hx1); (try clear p2); (try clear c4); (try clear c4b0); (try clear c5); (try clear c5b0); (try clear c6); (try clear c6b0); (try clear p6); (try clear c7); (try clear c7b0); (try clear c7b1); (try clear hx152_0); (try clear p152); (try clear p2); (try clear q152); obtain ⟨kq, x7_2, rfl, HA, HJ2, ⟨mc2, rfl⟩⟩ := hcut; cases kq with
  | zero => exact absurd HA.1 (by simp [spec_l4Size.j1])
  | succ kj2 =>
   have H := HA.1; clear HA; simp only [spec_l4Size.j1] at H; by_cases c8 : x7_2 = (wrap64 (a1 + 5))
   ·rw [if_pos c8] at H; have c8b0 := beq_iff_eq.mpr c8; have c8b1 : (x7_2 != (wrap64 (a1 + 5))) = false := bne_eq_false_iff_eq.mpr c8; clear c8; simp only [Option.some.injEq, Prod.mk.injEq] at H; obtain ⟨rfl, rfl, rfl⟩ := H; go_wp2
    go_ret3
    exact ⟨q2_, q5_⟩
   ·rw [if_neg c8] at H; have c8b0 := beq_eq_false_iff_ne.mpr c8; have c8b1 : (x7_2 != (wrap64 (a1 + 5))) = true := bne_iff_ne.mpr c8; have HC9 := aK H; clear H; go_upto_region 6 with (fail)
    go_cut [44] (fun v44 wc => ∃ (kq : Nat) (x44_8 : Bool), v44 = .bool x44_8 ∧ Aside0 (spec_l4Size.j2 kq l0 a1 x7_2 x44_8 = some (r1, r2, r3)) ∧ Aside0 (kq ≤ kj2) ∧ Drawn0 w wc)
    case first =>
     have H := HC9.1; clear HC9; by_cases c10 : x7_2 < (l0.length : Int)
     ·rw [if_pos c10] at H; have c10b0 := decide_eq_true c10; clear c10; (first | rw [c10b0] | rw [c10i0] | (simp only [i64_w, i32_w]; rw [c10b0]) | skip); have H' := aK H; clear H; go_wp2
      go_meet
      case rel => exact ⟨_, (true), q2_, H', ⟨q173_⟩, q5_⟩
     ·rw [if_neg c10] at H; have c10b0 := decide_eq_false c10; clear c10; (first | rw [c10b0] | rw [c10i0] | (simp only [i64_w, i32_w]; rw [c10b0]) | skip); have H' := aK H; clear H; go_wp2
      go_meet
      case rel => exact ⟨_, (decide (x7_2 > a1)), q2_, H', ⟨q173_⟩, q5_⟩
    case rest =>
     clear HC9; (try clear c1); (try clear p1); (try clear q1); (try clear hx1); (try clear c2); (try clear p2); (try clear c4); (try clear c4b0); (try clear c5); (try clear c5b0); (try clear c6); (try clear c6b0); (try clear p6); (try clear c7); (try clear c7b0); (try clear c7b1); (try clear c8); (try clear c8b0); (try clear c8b1); (try clear c10); (try clear c10b0); (try clear hx152_0); (try clear p1); (try clear p152); (try clear p2); (try clear p6); (try clear q1); (try clear q152); obtain ⟨kq, x44_8, rfl, HA, HJ8, ⟨mc8, rfl⟩⟩ := hcut; cases kq with
     | zero => exact absurd HA.1 (by simp [spec_l4Size.j2])
     | succ kj8 =>
      have H := HA.1; clear HA; simp only [spec_l4Size.j2] at H; have HC11 := aK H; clear H; go_upto_if 44 with (fail)
      go_cut [] (fun wc => ∃ (kq : Nat), Aside0 (spec_l4Size.j3 kq l0 a1 x7_2 = some (r1, r2, r3)) ∧ Aside0 (kq ≤ kj8) ∧ Drawn0 w wc)
      case first =>
       have H := HC11.1; clear HC11; by_cases c12 : x44_8 = true
       ·subst c12; rw [if_pos rfl] at H; by_cases c13 : 0 ≤ a1
        ·rw [if_pos c13] at H; have c13b0 := eq_true c13; have c13b1 := decide_eq_true c13; clear c13; by_cases c14 : a1 ≤ x7_2
         ·rw [if_pos c14] at H; have c14b0 := eq_true c14; have c14b1 := decide_eq_true c14; clear c14; by_cases c15 : x7_2 ≤ (l0.length : Int)
          ·rw [if_pos c15] at H; have c15b0 := eq_true c15; have c15b1 := decide_eq_true c15; clear c15; replace H := oB H; obtain ⟨⟨t154, t155⟩, A16, H⟩ := H; (try dsimp only at H); have HC17 := aK H; clear H; obtain ⟨i018, hi018, _, hsz18, _⟩ := info_parts info5; obtain ⟨A18, hcut18, hA18, hC18⟩ := print_mid_of (P := Tryz.prog) (Value.int .u8) 0 22 5 .i64 .i64 Tryz.underlying22 hi018 hsz18 A0 c0 l0 a1 x7_2 (of_decide_eq_true q4_) (by first | omega | exact of_decide_eq_true q4_) (of_decide_eq_true q4_) HC0.1; have HR153 := aK (Kd.C_of_reads (h1 := fun _ => rfl) (hA18 _ (Kd.reads_of_C HR0.1))); have HC153 := aK hC18; clear hA18 hC18 hi018 hsz18; have hq_ := HR153.1; rw [show ((l0.take (x7_2 : Int).toNat).drop (a1 : Int).toNat).length = (x7_2.toNat - a1.toNat) from q196_] at hq_; have hcv19 := Kd.C_string (P := Tryz.prog) (A := A18) (c := (c0 - a1.toNat)) Tryz.underlying22 Tryz.underlying5 Tryz.underlying9 hq_; have hcv20 := fun nq_ : Nat => Kd.C_string (P := Tryz.prog) (A := A18) (c := (c0 - a1.toNat)) Tryz.underlying22 Tryz.underlying5 Tryz.underlying9 (Kd.C_drewN hq_ nq_)
           clear hq_; go_upto_if 55 with (first | ((with_reducible refine gate_callee (f := 105) rfl ?_); refine goesL_ (some 51) rfl rfl Tryz.func105 (by kernel_rfl) rfl #[.string (strOfNums ((l0.take (x7_2 : Int).toNat).drop (a1 : Int).toNat))] rfl q3_ ?_; (with_reducible refine (spec_ParseHex.calls kj8 (strOfNums ((l0.take (x7_2 : Int).toNat).drop (a1 : Int).toNat)) t154 t155 _ A16.1).mono ?_); rintro e w' ⟨rfl, ⟨nd, rfl⟩⟩; refine ⟨_, rfl, ?_⟩))
           (try simp only [Act.put, sI, sZ, sS]); have H := HC17.1; clear HC17; by_cases c21 : t155 = true
           ·subst c21; rw [if_pos rfl] at H; have H' := aK H; clear H; go_wp2
            go_meet
            case rel => exact ⟨_, H', ⟨by have := HJ2.1; have := HJ8.1; first | omega | exact Nat.le_refl _⟩, q5_⟩
           ·replace c21 := Bool.eq_false_iff.mpr c21; subst c21; rw [if_neg (show ¬ (false = true) by decide)] at H; simp only [Option.some.injEq, Prod.mk.injEq] at H; obtain ⟨rfl, rfl, rfl⟩ := H; go_wp2
            go_ret3
            exact ⟨q2_, q5_⟩
          ·rw [if_neg c15] at H; exact absurd H (by simp)
         ·rw [if_neg c14] at H; exact absurd H (by simp)
        ·rw [if_neg c13] at H; exact absurd H (by simp)
       ·replace c12 := Bool.eq_false_iff.mpr c12; subst c12; rw [if_neg (show ¬ (false = true) by decide)] at H; have H' := aK H; clear H; go_wp2
        go_meet
        case rel => exact ⟨_, H', ⟨by have := HJ2.1; have := HJ8.1; first | omega | exact Nat.le_refl _⟩, q5_⟩
      case rest =>
       clear HC11; (try clear c1); (try clear p1); (try clear q1); (try clear hx1); (try clear hcv1); (try clear c2); (try clear p2); (try clear hcv2); (try clear c4); (try clear c4b0); (try clear c5); (try clear c5b0); (try clear c6); (try clear c6b0); (try clear p6); (try clear c7); (try clear c7b0); (try clear c7b1); (try clear c8); (try clear c8b0); (try clear c8b1); (try clear c10); (try clear c10b0); (try clear c12); (try clear c13); (try clear c13b0); (try clear c13b1); (try clear c14); (try clear c14b0); (try clear c14b1); (try clear c15); (try clear c15b0); (try clear c15b1); (try clear p15); (try clear q15); (try clear hx15); (try clear hcv19); (try clear hcv20); (try clear c21); (try clear hx152_0); (try clear p1); (try clear p152); (try clear p2); (try clear p6); (try clear q1); (try clear q152); obtain ⟨kq, HA, HJ10, ⟨mc10, rfl⟩⟩ := hcut; cases kq with
       | zero => exact absurd HA.1 (by simp [spec_l4Size.j3])
       | succ kj10 =>
        have H := HA.1; clear HA; simp only [spec_l4Size.j3] at H; by_cases c22 : (wrap64 (x7_2 + 1)) ≥ (l0.length : Int)
        ·rw [if_pos c22] at H; have c22b0 : decide ((l0.length : Int) ≤ (wrap64 (x7_2 + 1))) = true := decide_eq_true c22; clear c22; simp only [Option.some.injEq, Prod.mk.injEq] at H; obtain ⟨rfl, rfl, rfl⟩ := H; go_wp2
         go_ret3
         exact ⟨q2_, q5_⟩
        ·rw [if_neg c22] at H; have c22b0 : decide ((l0.length : Int) ≤ (wrap64 (x7_2 + 1))) = false := decide_eq_false c22; clear c22; obtain ⟨ji23, hji23⟩ : ∃ j_ : Int, (wrap64 (x7_2 + 1)) = j_ := ⟨_, rfl⟩; replace H : (if 0 ≤ (ji23) then (if (ji23) < (l0.length : Int) then (if (rd l0 (ji23)) = 10 then (if 0 ≤ a1 then (if a1 ≤ x7_2 then (if x7_2 ≤ (l0.length : Int) then ((spec_ParseHex.f kj10 (strOfNums ((l0.take (x7_2 : Int).toNat).drop (a1 : Int).toNat))).bind fun bt158 => (some (bt158.1, wrap64 (x7_2 + 2), 0))) else (none)) else (none)) else (none)) else (some (0, 0, 400))) else (none)) else (none)) = some (r1, r2, r3) := by first | (rw [hji23] at H; exact H) | (simp only [hji23] at H ⊢; exact H)
         (try rw [hji23] at c22b0); have hji23w : (IntKind.i64.wrap (x7_2 + 1)) = ji23 := (i64_w _).trans hji23; by_cases c24 : 0 ≤ (ji23)
         ·rw [if_pos c24] at H; have c24b0 := decide_eq_true c24; clear c24; by_cases c25 : (ji23) < (l0.length : Int)
          ·rw [if_pos c25] at H; have c25b0 := decide_eq_true c25; clear c25; by_cases c26 : (rd l0 (ji23)) = 10
           ·rw [if_pos c26] at H; have c26b0 := beq_iff_eq.mpr c26; have c26b1 : ((rd l0 (ji23)) != 10) = false := bne_eq_false_iff_eq.mpr c26; clear c26; by_cases c27 : 0 ≤ a1
            ·rw [if_pos c27] at H; have c27b0 := eq_true c27; have c27b1 := decide_eq_true c27; clear c27; by_cases c28 : a1 ≤ x7_2
             ·rw [if_pos c28] at H; have c28b0 := eq_true c28; have c28b1 := decide_eq_true c28; clear c28; by_cases c29 : x7_2 ≤ (l0.length : Int)
              ·rw [if_pos c29] at H; have c29b0 := eq_true c29; have c29b1 := decide_eq_true c29; clear c29; replace H := oB H; obtain ⟨⟨t158, t159⟩, A30, H⟩ := H; (try dsimp only at H); simp only [Option.some.injEq, Prod.mk.injEq] at H; obtain ⟨rfl, rfl, rfl⟩ := H; have p156 : 0 ≤ ((ji23) : Int) := of_decide_eq_true q4_; have q156 : (ji23) < (l0.length : Int) := of_decide_eq_true q4_; obtain ⟨ad156, e156, hx156_0⟩ := Kd.at_int HR0.1 (ji23) p156 q156; cases e156
               replace p156 := eq_true p156; replace q156 := eq_true q156; obtain ⟨i031, hi031, _, hsz31, _⟩ := info_parts info5; obtain ⟨A31, hcut31, hA31, hC31⟩ := print_mid_of (P := Tryz.prog) (Value.int .u8) 0 22 5 .i64 .i64 Tryz.underlying22 hi031 hsz31 (some ad156) c0 l0 a1 x7_2 (of_decide_eq_true q4_) (by first | omega | exact of_decide_eq_true q4_) (of_decide_eq_true q4_) HC0.1; have HR157 := aK (Kd.C_of_reads (h1 := fun _ => rfl) (hA31 _ (Kd.reads_of_C HR0.1))); have HC157 := aK hC31; clear hA31 hC31 hi031 hsz31; have hq_ := HR157.1; rw [show ((l0.take (x7_2 : Int).toNat).drop (a1 : Int).toNat).length = (x7_2.toNat - a1.toNat) from q196_] at hq_; have hcv32 := Kd.C_string (P := Tryz.prog) (A := A31) (c := (c0 - a1.toNat)) Tryz.underlying22 Tryz.underlying5 Tryz.underlying9 hq_; have hcv33 := fun nq_ : Nat => Kd.C_string (P := Tryz.prog) (A := A31) (c := (c0 - a1.toNat)) Tryz.underlying22 Tryz.underlying5 Tryz.underlying9 (Kd.C_drewN hq_ nq_)
               clear hq_; go_wp2_with (first | ((with_reducible refine gate_callee (f := 105) rfl ?_); refine goesL_ (some 73) rfl rfl Tryz.func105 (by kernel_rfl) rfl #[.string (strOfNums ((l0.take (x7_2 : Int).toNat).drop (a1 : Int).toNat))] rfl q3_ ?_; (with_reducible refine (spec_ParseHex.calls kj10 (strOfNums ((l0.take (x7_2 : Int).toNat).drop (a1 : Int).toNat)) t158 t159 _ A30.1).mono ?_); rintro e w' ⟨rfl, ⟨nd, rfl⟩⟩; refine ⟨_, rfl, ?_⟩))
               go_ret3
               exact ⟨q189_, q5_⟩
              ·rw [if_neg c29] at H; exact absurd H (by simp)
             ·rw [if_neg c28] at H; exact absurd H (by simp)
            ·rw [if_neg c27] at H; exact absurd H (by simp)
           ·rw [if_neg c26] at H; have c26b0 := beq_eq_false_iff_ne.mpr c26; have c26b1 : ((rd l0 (ji23)) != 10) = true := bne_iff_ne.mpr c26; simp only [Option.some.injEq, Prod.mk.injEq] at H; obtain ⟨rfl, rfl, rfl⟩ := H; have p156 : 0 ≤ ((ji23) : Int) := of_decide_eq_true q4_; have q156 : (ji23) < (l0.length : Int) := of_decide_eq_true q4_; obtain ⟨ad156, e156, hx156_0⟩ := Kd.at_int HR0.1 (ji23) p156 q156; cases e156
            replace p156 := eq_true p156; replace q156 := eq_true q156; go_wp2
            go_ret3
            exact ⟨q189_, q5_⟩
          ·rw [if_neg c25] at H; exact absurd H (by simp)
         ·rw [if_neg c24] at H; exact absurd H (by simp)

def spec_l4End.f (l0 : List Int) (a1 : Int) : Option (Int) := if a1 ≥ (l0.length : Int) then (some 1) else (if 0 ≤ a1 then (if a1 < (l0.length : Int) then (if (rd l0 a1) = 13 then (if (wrap64 (a1 + 1)) ≥ (l0.length : Int) then (some 1) else (if 0 ≤ (wrap64 (a1 + 1)) then (if (wrap64 (a1 + 1)) < (l0.length : Int) then (if (rd l0 (wrap64 (a1 + 1))) = 10 then (some 0) else (some 400)) else (none)) else (none))) else (some 400)) else (none)) else (none))
theorem spec_l4End.calls (A0 : Option Addr) (c0 : Nat) (l0 : List Int) (a1 : Int) (r : Int) (w : World) (hr0 : Kd.C (Kd.int .u8) w A0 l0.length l0) (hc0 : l0.length ≤ c0) (h : spec_l4End.f l0 a1 = some r) :
  Calls Tryz.prog 86 #[.slice A0 l0.length c0, .int .i64 a1] w fun e w' => e = .returned (.int .i64 r) ∧ Drawn0 w w' := by
 have HR0 := aK hr0; have HC0 := aK hc0; clear hr0 hc0; have H := h; clear h; unfold spec_l4End.f at H
 by_cases c3 : a1 ≥ (l0.length : Int)
 ·rw [if_pos c3] at H; have c3b0 : decide ((l0.length : Int) ≤ a1) = true := decide_eq_true c3; clear c3; obtain rfl := Option.some.inj H; go_enter Tryz.func86, Tryz.ntmps86
  go_wp2
  go_ret
  exact ⟨q2_, q5_⟩
 ·rw [if_neg c3] at H; have c3b0 : decide ((l0.length : Int) ≤ a1) = false := decide_eq_false c3; clear c3; by_cases c4 : 0 ≤ a1
  ·rw [if_pos c4] at H; have c4b0 := decide_eq_true c4; clear c4; by_cases c5 : a1 < (l0.length : Int)
   ·rw [if_pos c5] at H; have c5b0 := decide_eq_true c5; clear c5; by_cases c6 : (rd l0 a1) = 13
    ·rw [if_pos c6] at H; have c6b0 := beq_iff_eq.mpr c6; have c6b1 : ((rd l0 a1) != 13) = false := bne_eq_false_iff_eq.mpr c6; clear c6; by_cases c7 : (wrap64 (a1 + 1)) ≥ (l0.length : Int)
     ·rw [if_pos c7] at H; have c7b0 : decide ((l0.length : Int) ≤ (wrap64 (a1 + 1))) = true := decide_eq_true c7; clear c7; obtain rfl := Option.some.inj H; have p160 : 0 ≤ (a1 : Int) := of_decide_eq_true q4_; have q160 : a1 < (l0.length : Int) := of_decide_eq_true q4_; obtain ⟨ad160, e160, hx160_0⟩ := Kd.at_int HR0.1 a1 p160 q160; cases e160
      replace p160 := eq_true p160; replace q160 := eq_true q160; go_enter Tryz.func86, Tryz.ntmps86
      go_wp2
      go_ret
      exact ⟨q2_, q5_⟩
     ·rw [if_neg c7] at H; have c7b0 : decide ((l0.length : Int) ≤ (wrap64 (a1 + 1))) = false := decide_eq_false c7; clear c7; obtain ⟨ji8, hji8⟩ : ∃ j_ : Int, (wrap64 (a1 + 1)) = j_ := ⟨_, rfl⟩; replace H : (if 0 ≤ (ji8) then (if (ji8) < (l0.length : Int) then (if (rd l0 (ji8)) = 10 then (some 0) else (some 400)) else (none)) else (none)) = some r := by first | (rw [hji8] at H; exact H) | (simp only [hji8] at H ⊢; exact H)
      (try rw [hji8] at c7b0); have hji8w : (IntKind.i64.wrap (a1 + 1)) = ji8 := (i64_w _).trans hji8; by_cases c9 : 0 ≤ (ji8)
      ·rw [if_pos c9] at H; have c9b0 := decide_eq_true c9; clear c9; by_cases c10 : (ji8) < (l0.length : Int)
       ·rw [if_pos c10] at H; have c10b0 := decide_eq_true c10; clear c10; by_cases c11 : (rd l0 (ji8)) = 10
        ·rw [if_pos c11] at H; have c11b0 := beq_iff_eq.mpr c11; have c11b1 : ((rd l0 (ji8)) != 10) = false := bne_eq_false_iff_eq.mpr c11; clear c11; obtain rfl := Option.some.inj H; have p160 : 0 ≤ (a1 : Int) := of_decide_eq_true q4_; have q160 : a1 < (l0.length : Int) := of_decide_eq_true q4_; obtain ⟨ad160, e160, hx160_0⟩ := Kd.at_int HR0.1 a1 p160 q160; cases e160
         replace p160 := eq_true p160; replace q160 := eq_true q160; have p161 : 0 ≤ ((ji8) : Int) := of_decide_eq_true q4_; have q161 : (ji8) < (l0.length : Int) := of_decide_eq_true q4_; obtain ⟨ad161, e161, hx161_0⟩ := Kd.at_int HR0.1 (ji8) p161 q161; obtain rfl : ad160 = ad161 := (by injection e161); replace p161 := eq_true p161; replace q161 := eq_true q161; go_enter Tryz.func86, Tryz.ntmps86
         go_wp2
         go_ret
         exact ⟨q190_, q5_⟩
        ·rw [if_neg c11] at H; have c11b0 := beq_eq_false_iff_ne.mpr c11; have c11b1 : ((rd l0 (ji8)) != 10) = true := bne_iff_ne.mpr c11; obtain rfl := Option.some.inj H; have p160 : 0 ≤ (a1 : Int) := of_decide_eq_true q4_; have q160 : a1 < (l0.length : Int) := of_decide_eq_true q4_; obtain ⟨ad160, e160, hx160_0⟩ := Kd.at_int HR0.1 a1 p160 q160; cases e160
         replace p160 := eq_true p160; replace q160 := eq_true q160; have p161 : 0 ≤ ((ji8) : Int) := of_decide_eq_true q4_; have q161 : (ji8) < (l0.length : Int) := of_decide_eq_true q4_; obtain ⟨ad161, e161, hx161_0⟩ := Kd.at_int HR0.1 (ji8) p161 q161; obtain rfl : ad160 = ad161 := (by injection e161); replace p161 := eq_true p161; replace q161 := eq_true q161; go_enter Tryz.func86, Tryz.ntmps86
         go_wp2
         go_ret
         exact ⟨q190_, q5_⟩
       ·rw [if_neg c10] at H; exact absurd H (by simp)
      ·rw [if_neg c9] at H; exact absurd H (by simp)
    ·rw [if_neg c6] at H; have c6b0 := beq_eq_false_iff_ne.mpr c6; have c6b1 : ((rd l0 a1) != 13) = true := bne_iff_ne.mpr c6; obtain rfl := Option.some.inj H; have p160 : 0 ≤ (a1 : Int) := of_decide_eq_true q4_; have q160 : a1 < (l0.length : Int) := of_decide_eq_true q4_; obtain ⟨ad160, e160, hx160_0⟩ := Kd.at_int HR0.1 a1 p160 q160; cases e160
     replace p160 := eq_true p160; replace q160 := eq_true q160; go_enter Tryz.func86, Tryz.ntmps86
     go_wp2
     go_ret
     exact ⟨q2_, q5_⟩
   ·rw [if_neg c5] at H; exact absurd H (by simp)
  ·rw [if_neg c4] at H; exact absurd H (by simp)

def spec_GetChunks.l0 : Nat → List Int → Int → ByteArray → Option (ByteArray × Int × Int)
 | 0, _, _, _ => none
 | k + 1, x0, x1, x7 => if (x7.size : Int) ≤ 200 then ((spec_l4Size.f k x0 x1).bind fun bt163 => (if bt163.2.2 = 0 then (if (wrap64 ((x7.size : Int) + bt163.1)) > 200 then (some ((⟨#[]⟩ : BA), 0, 413)) else (if bt163.1 > (wrap64 ((x0.length : Int) - bt163.2.1)) then (some ((⟨#[]⟩ : BA), 0, 1)) else (if 0 ≤ bt163.2.1 then (if bt163.2.1 ≤ (wrap64 (bt163.2.1 + bt163.1)) then (if (wrap64 (bt163.2.1 + bt163.1)) ≤ (x0.length : Int) then (if x7.size + (strOfNums ((x0.take ((wrap64 (bt163.2.1 + bt163.1)) : Int).toNat).drop (bt163.2.1 : Int).toNat)).size ≤ 9223372036854775807 then ((spec_l4End.f x0 (wrap64 (bt163.2.1 + bt163.1))).bind fun t167 => (if t167 = 0 then (if bt163.1 = 0 then (some (x7 ++ (strOfNums ((x0.take ((wrap64 (bt163.2.1 + bt163.1)) : Int).toNat).drop (bt163.2.1 : Int).toNat)), wrap64 ((wrap64 (bt163.2.1 + bt163.1)) + 2), 0)) else (spec_GetChunks.l0 k x0 (wrap64 ((wrap64 (bt163.2.1 + bt163.1)) + 2)) (x7 ++ (strOfNums ((x0.take ((wrap64 (bt163.2.1 + bt163.1)) : Int).toNat).drop (bt163.2.1 : Int).toNat))))) else (some ((⟨#[]⟩ : BA), 0, t167)))) else (none)) else (none)) else (none)) else (none)))) else (some ((⟨#[]⟩ : BA), 0, bt163.2.2)))) else (some ((⟨#[]⟩ : BA), 0, 413))
def spec_GetChunks.f (k : Nat) (l0 : List Int) (a1 : Int) : Option (ByteArray × Int × Int) := (spec_l1In.f a1 0 (l0.length : Int)).bind fun t162 => (if t162 = true then (spec_GetChunks.l0 k l0 a1 (⟨#[]⟩ : BA)) else (some ((⟨#[]⟩ : BA), 0, 400)))

theorem spec_GetChunks.calls (k : Nat) (A0 : Option Addr) (c0 : Nat) (l0 : List Int) (a1 : Int) (r1 : ByteArray) (r2 : Int) (r3 : Int) (w : World) (hr0 : Kd.C (Kd.int .u8) w A0 l0.length l0) (hc0 : l0.length ≤ c0) (h : spec_GetChunks.f k l0 a1 = some (r1, r2, r3)) :
  Calls Tryz.prog 48 #[.slice A0 l0.length c0, .int .i64 a1] w fun e w' => e = .returned (.tuple #[.string r1, .int .i64 r2, .int .i64 r3]) ∧ Drawn0 w w' := by
 have HR0 := aK hr0; have HC0 := aK hc0; clear hr0 hc0; have H := h; clear h; unfold spec_GetChunks.f at H
 replace H := oB H; obtain ⟨t162, A3, H⟩ := H; (try dsimp only at H); have HC4 := aK H; clear H; go_enter Tryz.func48, Tryz.ntmps48
 go_upto_if 15 with (first | ((with_reducible refine gate_callee (f := 84) rfl ?_); refine goesL_ (some 14) rfl rfl Tryz.func84 (by kernel_rfl) rfl #[.int .i64 a1, .int .i64 0, .int .i64 (l0.length : Int)] rfl q3_ ?_; (with_reducible refine (spec_l1In.calls a1 0 (l0.length : Int) t162 _ A3.1).mono ?_); rintro e w' ⟨rfl, ⟨nd, rfl⟩⟩; refine ⟨_, rfl, ?_⟩))
 (try simp only [Act.put, sI, sZ, sS]); have H := HC4.1; clear HC4; by_cases c5 : t162 = true
 ·subst c5; rw [if_pos rfl] at H; have H' := aK H; clear H; go_wp2
  go_loopg [1, 7] k (fun kq v1 v7 w' => ∃ (x1_1 : Int) (x7_1 : ByteArray), v1 = .int .i64 x1_1 ∧ v7 = .string x7_1 ∧ Aside0 (spec_GetChunks.l0 kq l0 x1_1 x7_1 = some (r1, r2, r3)) ∧ Aside0 (kq ≤ k) ∧ Drawn0 w w')
  case atStart => exact ⟨(a1), ((⟨#[]⟩ : BA)), q2_, q2_, H', ⟨Nat.le_refl _⟩, q5_⟩
  case round =>
   clear H'; (try clear p2); (try clear c4); (try clear c5); obtain ⟨x1_1, x7_1, rfl, rfl, HA, HK1, ⟨m1, rfl⟩⟩ := hrel; cases gk with
   | zero => exact absurd HA.1 (by simp [spec_GetChunks.l0])
   | succ k1 =>
    have H := HA.1; clear HA; simp only [spec_GetChunks.l0] at H; by_cases c6 : (x7_1.size : Int) ≤ 200
    ·rw [if_pos c6] at H; have c6b0 := decide_eq_true c6; have c6b1 : decide (x7_1.size ≤ 200) = true := decide_eq_true (by omega); clear c6; (first | rw [c6b0] | rw [c6i0] | rw [c6b1] | (simp only [i64_w, i32_w]; rw [c6b0]) | skip); replace H := oB H; obtain ⟨⟨t163, t164, t165⟩, A7, H⟩ := H; (try dsimp only at H); have HC8 := aK H; clear H; go_upto_if 27 with (first | ((with_reducible refine gate_callee (f := 85) rfl ?_); refine goesL_ (some 22) rfl rfl Tryz.func85 (by kernel_rfl) rfl #[.slice A0 l0.length c0, .int .i64 x1_1] rfl q3_ ?_; (with_reducible refine (spec_l4Size.calls k1 _ _ l0 x1_1 t163 t164 t165 _ ?side1 ?side2 A7.1).mono ?_); (case side1 => exact q70_); (case side2 => exact q197_); rintro e w' ⟨rfl, ⟨nd, rfl⟩⟩; refine ⟨_, rfl, ?_⟩))
     (try simp only [Act.put, sI, sZ, sS]); have H := HC8.1; clear HC8; by_cases c9 : t165 = 0
     ·rw [if_pos c9] at H; have c9b0 := beq_iff_eq.mpr c9; have c9b1 : (t165 != 0) = false := bne_eq_false_iff_eq.mpr c9; clear c9; (first | rw [c9b0] | rw [c9i0] | (simp only [i64_w, i32_w]; rw [c9b0]) | skip); by_cases c10 : (wrap64 ((x7_1.size : Int) + t163)) > 200
      ·rw [if_pos c10] at H; have c10b0 : decide (200 < (wrap64 ((x7_1.size : Int) + t163))) = true := decide_eq_true c10; clear c10; simp only [Option.some.injEq, Prod.mk.injEq] at H; obtain ⟨rfl, rfl, rfl⟩ := H; go_wp2
       go_ret3
       exact ⟨q2_, q5_⟩
      ·rw [if_neg c10] at H; have c10b0 : decide (200 < (wrap64 ((x7_1.size : Int) + t163))) = false := decide_eq_false c10; clear c10; by_cases c11 : t163 > (wrap64 ((l0.length : Int) - t164))
       ·rw [if_pos c11] at H; have c11b0 : decide ((wrap64 ((l0.length : Int) - t164)) < t163) = true := decide_eq_true c11; clear c11; simp only [Option.some.injEq, Prod.mk.injEq] at H; obtain ⟨rfl, rfl, rfl⟩ := H; go_wp2
        go_ret3
        exact ⟨q2_, q5_⟩
       ·rw [if_neg c11] at H; have c11b0 : decide ((wrap64 ((l0.length : Int) - t164)) < t163) = false := decide_eq_false c11; clear c11; by_cases c12 : 0 ≤ t164
        ·rw [if_pos c12] at H; have c12b0 := eq_true c12; have c12b1 := decide_eq_true c12; clear c12; by_cases c13 : t164 ≤ (wrap64 (t164 + t163))
         ·rw [if_pos c13] at H; have c13b0 := eq_true c13; have c13b1 := decide_eq_true c13; by_cases c14 : (wrap64 (t164 + t163)) ≤ (l0.length : Int)
          ·rw [if_pos c14] at H; have c14b0 := eq_true c14; have c14b1 := decide_eq_true c14; by_cases c15 : x7_1.size + (strOfNums ((l0.take ((wrap64 (t164 + t163)) : Int).toNat).drop (t164 : Int).toNat)).size ≤ 9223372036854775807
           ·rw [if_pos c15] at H; have c15b0 := eq_true c15; have c15b1 := decide_eq_true c15; try have c15b2 : (9223372036854775807 < x7_1.size + (strOfNums ((l0.take ((wrap64 (t164 + t163)) : Int).toNat).drop (t164 : Int).toNat)).size) = False := eq_false (Nat.not_lt.2 c15)
            replace H := oB H; obtain ⟨t167, A16, H⟩ := H; (try dsimp only at H); have HC17 := aK H; clear H; obtain ⟨i018, hi018, _, hsz18, _⟩ := info_parts info5; obtain ⟨A18, hcut18, hA18, hC18⟩ := print_mid_of (P := Tryz.prog) (Value.int .u8) 0 22 5 .i64 .i64 Tryz.underlying22 hi018 hsz18 A0 c0 l0 t164 (wrap64 (t164 + t163)) (of_decide_eq_true q4_) (by first | omega | exact of_decide_eq_true q4_) (of_decide_eq_true q4_) HC0.1; have HR166 := aK (Kd.C_of_reads (h1 := fun _ => rfl) (hA18 _ (Kd.reads_of_C HR0.1))); have HC166 := aK hC18; clear hA18 hC18 hi018 hsz18; have hq_ := HR166.1; rw [show ((l0.take ((wrap64 (t164 + t163)) : Int).toNat).drop (t164 : Int).toNat).length = ((wrap64 (t164 + t163)).toNat - t164.toNat) from (by rw [List.length_drop, List.length_take]; have h_ : ((wrap64 (t164 + t163)) : Int) ≤ (l0.length : Int) := of_decide_eq_true q4_; omega)] at hq_; have hcv19 := Kd.C_string (P := Tryz.prog) (A := A18) (c := (c0 - t164.toNat)) Tryz.underlying22 Tryz.underlying5 Tryz.underlying9 hq_; have hcv20 := fun nq_ : Nat => Kd.C_string (P := Tryz.prog) (A := A18) (c := (c0 - t164.toNat)) Tryz.underlying22 Tryz.underlying5 Tryz.underlying9 (Kd.C_drewN hq_ nq_)
            clear hq_; go_upto_if 55 with (first | ((with_reducible refine gate_callee (f := 86) rfl ?_); refine goesL_ (some 53) rfl rfl Tryz.func86 (by kernel_rfl) rfl #[.slice A0 l0.length c0, .int .i64 (wrap64 (t164 + t163))] rfl q3_ ?_; (with_reducible refine (spec_l4End.calls _ _ l0 (wrap64 (t164 + t163)) t167 _ ?side1 ?side2 A16.1).mono ?_); (case side1 => exact q70_); (case side2 => exact q197_); rintro e w' ⟨rfl, ⟨nd, rfl⟩⟩; refine ⟨_, rfl, ?_⟩))
            (try simp only [Act.put, sI, sZ, sS]); have H := HC17.1; clear HC17; by_cases c21 : t167 = 0
            ·rw [if_pos c21] at H; have c21b0 := beq_iff_eq.mpr c21; have c21b1 : (t167 != 0) = false := bne_eq_false_iff_eq.mpr c21; clear c21; (first | rw [c21b0] | rw [c21i0] | (simp only [i64_w, i32_w]; rw [c21b0]) | skip); by_cases c22 : t163 = 0
             ·rw [if_pos c22] at H; have c22b0 := beq_iff_eq.mpr c22; have c22b1 : (t163 != 0) = false := bne_eq_false_iff_eq.mpr c22; clear c22; simp only [Option.some.injEq, Prod.mk.injEq] at H; obtain ⟨rfl, rfl, rfl⟩ := H; go_wp2
              go_ret3
              exact ⟨q2_, q5_⟩
             ·rw [if_neg c22] at H; have c22b0 := beq_eq_false_iff_ne.mpr c22; have c22b1 : (t163 != 0) = true := bne_iff_ne.mpr c22; have H' := aK H; clear H; go_wp2
              go_roundg k1
              case measure => have := HK1.1; omega
              case rel => exact ⟨(wrap64 ((wrap64 (t164 + t163)) + 2)), (x7_1 ++ (strOfNums ((l0.take ((wrap64 (t164 + t163)) : Int).toNat).drop (t164 : Int).toNat))), q2_, q2_, H', ⟨q64_⟩, q5_⟩
            ·rw [if_neg c21] at H; have c21b0 := beq_eq_false_iff_ne.mpr c21; have c21b1 : (t167 != 0) = true := bne_iff_ne.mpr c21; (first | rw [c21b0] | rw [c21i0] | (simp only [i64_w, i32_w]; rw [c21b0]) | skip); simp only [Option.some.injEq, Prod.mk.injEq] at H; obtain ⟨rfl, rfl, rfl⟩ := H; go_wp2
             go_ret3
             exact ⟨q2_, q5_⟩
           ·rw [if_neg c15] at H; exact absurd H (by simp)
          ·rw [if_neg c14] at H; exact absurd H (by simp)
         ·rw [if_neg c13] at H; exact absurd H (by simp)
        ·rw [if_neg c12] at H; exact absurd H (by simp)
     ·rw [if_neg c9] at H; have c9b0 := beq_eq_false_iff_ne.mpr c9; have c9b1 : (t165 != 0) = true := bne_iff_ne.mpr c9; (first | rw [c9b0] | rw [c9i0] | (simp only [i64_w, i32_w]; rw [c9b0]) | skip); simp only [Option.some.injEq, Prod.mk.injEq] at H; obtain ⟨rfl, rfl, rfl⟩ := H; go_wp2
      go_ret3
      exact ⟨q2_, q5_⟩
    ·rw [if_neg c6] at H; have c6b0 := decide_eq_false c6; have c6b1 : decide (x7_1.size ≤ 200) = false := decide_eq_false (by omega); clear c6; (first | rw [c6b0] | rw [c6i0] | rw [c6b1] | (simp only [i64_w, i32_w]; rw [c6b0]) | skip); simp only [Option.some.injEq, Prod.mk.injEq] at H; obtain ⟨rfl, rfl, rfl⟩ := H; go_wp2
     go_ret3
     exact ⟨q2_, q5_⟩
 ·replace c5 := Bool.eq_false_iff.mpr c5; subst c5; rw [if_neg (show ¬ (false = true) by decide)] at H; simp only [Option.some.injEq, Prod.mk.injEq] at H; obtain ⟨rfl, rfl, rfl⟩ := H; go_wp2
  go_ret3
  exact ⟨q2_, q5_⟩

end Go.Proofs.YtaajhdljdmbhhaaGreatDoor.GFnExactFeedAll
