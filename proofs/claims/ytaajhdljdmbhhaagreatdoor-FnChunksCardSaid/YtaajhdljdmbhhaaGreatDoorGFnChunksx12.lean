-- by gprint.py (this session's program over the kit's print.py) (a twelfth state) out of the translation. Not trusted: Lean checks it.
import Derived.Test.YtaajhdljdmbhhaaGreatDoorGFnChunksx0
import Derived.Test.YtaajhdljdmbhhaaGreatDoorGFnChunksx6
import Derived.Test.YtaajhdljdmbhhaaGreatDoorGFnChunksx7
namespace Go.Proofs.YtaajhdljdmbhhaaGreatDoor.GFnChunks
open Go.RowKit Go.Proofs.YtaajhdljdmbhhaaGreatDoorW.PrintWords Go.Proofs.YtaajhdljdmbhhaaGreatDoorW.PrintLast Go.Proofs.YtaajhdljdmbhhaaGreatDoorW.PrintMore
attribute [local go_sem] max2_int min2_int max_two min_two max_three min_three max_four min_four   -- for this text's walks alone
set_option linter.unusedVariables false
set_option linter.unusedSimpArgs false
set_option maxRecDepth 100000
set_option maxHeartbeats 8000000

def spec_l1HexOf.f (a0 : Int) : Option (Int) := (spec_l1Digit.f a0).bind fun t505 => (if t505 = true then (some (wrap64 ((wrap64 (a0)) - 48))) else ((spec_l1In.f (wrap64 (a0)) 97 102).bind fun t506 => (if t506 = true then (some (wrap64 ((wrap64 ((wrap64 (a0)) - 97)) + 10))) else ((spec_l1In.f (wrap64 (a0)) 65 70).bind fun t507 => (if t507 = true then (some (wrap64 ((wrap64 ((wrap64 (a0)) - 65)) + 10))) else (some (-1)))))))
theorem spec_l1HexOf.calls (a0 : Int) (r : Int) (w : World) (h : spec_l1HexOf.f a0 = some r) :
  Calls Tryz.prog 132 #[.int .u8 a0] w fun e w' => e = .returned (.int .i64 r) ∧ Drawn0 w w' := by
 have H := h; clear h; unfold spec_l1HexOf.f at H
 replace H := oB H; obtain ⟨t505, A2, H⟩ := H; (try dsimp only at H); have HC3 := aK H; clear H; go_enter Tryz.func132, Tryz.ntmps132
 go_upto_if 3 with (first | ((with_reducible refine gate_callee (f := 154) rfl ?_); refine goesL_ (some 5) rfl rfl Tryz.func154 (by kernel_rfl) rfl #[.int .u8 a0] rfl q2_ ?_; (with_reducible refine (spec_l1Digit.calls a0 t505 _ A2.1).mono ?_); rintro e w' ⟨rfl, ⟨nd, rfl⟩⟩; refine ⟨_, rfl, ?_⟩))
 (try simp only [Act.put, sI, sZ, sS]); have H := HC3.1; clear HC3; by_cases c4 : t505 = true
 ·subst c4; rw [if_pos rfl] at H; obtain rfl := Option.some.inj H; go_wp2
  go_ret
  exact ⟨q3_, q10_⟩
 ·replace c4 := Bool.eq_false_iff.mpr c4; subst c4; rw [if_neg (show ¬ (false = true) by decide)] at H; replace H := oB H; obtain ⟨t506, A5, H⟩ := H; (try dsimp only at H); have HC6 := aK H; clear H; go_upto_if 9 with (first | ((with_reducible refine gate_callee (f := 84) rfl ?_); refine goesL_ (some 12) rfl rfl Tryz.func84 (by kernel_rfl) rfl #[.int .i64 (wrap64 (a0)), .int .i64 97, .int .i64 102] rfl q2_ ?_; (with_reducible refine (spec_l1In.calls (wrap64 (a0)) 97 102 t506 _ A5.1).mono ?_); rintro e w' ⟨rfl, ⟨nd, rfl⟩⟩; refine ⟨_, rfl, ?_⟩))
  (try simp only [Act.put, sI, sZ, sS]); have H := HC6.1; clear HC6; by_cases c7 : t506 = true
  ·subst c7; rw [if_pos rfl] at H; obtain rfl := Option.some.inj H; go_wp2
   go_ret
   exact ⟨q3_, q10_⟩
  ·replace c7 := Bool.eq_false_iff.mpr c7; subst c7; rw [if_neg (show ¬ (false = true) by decide)] at H; replace H := oB H; obtain ⟨t507, A8, H⟩ := H; (try dsimp only at H); have HC9 := aK H; clear H; go_upto_if 17 with (first | ((with_reducible refine gate_callee (f := 84) rfl ?_); refine goesL_ (some 20) rfl rfl Tryz.func84 (by kernel_rfl) rfl #[.int .i64 (wrap64 (a0)), .int .i64 65, .int .i64 70] rfl q2_ ?_; (with_reducible refine (spec_l1In.calls (wrap64 (a0)) 65 70 t507 _ A8.1).mono ?_); rintro e w' ⟨rfl, ⟨nd, rfl⟩⟩; refine ⟨_, rfl, ?_⟩))
   (try simp only [Act.put, sI, sZ, sS]); have H := HC9.1; clear HC9; by_cases c10 : t507 = true
   ·subst c10; rw [if_pos rfl] at H; obtain rfl := Option.some.inj H; go_wp2
    go_ret
    exact ⟨q3_, q10_⟩
   ·replace c10 := Bool.eq_false_iff.mpr c10; subst c10; rw [if_neg (show ¬ (false = true) by decide)] at H; obtain rfl := Option.some.inj H; go_wp2
    go_ret
    exact ⟨q3_, q10_⟩

mutual
def spec_ParseHex.l0 : Nat → ByteArray → Int → Int → Option (Int × Bool)
 | 0, _, _, _ => none
 | k + 1, x0, x4, x5 => if x5 < (x0.size : Int) then (spec_ParseHex.j1 k x0 x4 x5 (decide (x5 < 5))) else (spec_ParseHex.j1 k x0 x4 x5 false)
def spec_ParseHex.j1 : Nat → ByteArray → Int → Int → Bool → Option (Int × Bool)
 | 0, _, _, _, _ => none
 | k + 1, x0, x4, x5, x14 => if x14 = true then (if 0 ≤ x5 then (if x5 < (x0.size : Int) then ((spec_l1HexOf.f (bt x0 x5)).bind fun t508 => (if t508 < 0 then (some (0, false)) else (spec_ParseHex.l0 k x0 (wrap64 ((wrap64 (x4 * 16)) + t508)) (wrap64 (x5 + 1))))) else (none)) else (none)) else ((spec_l1In.f (x0.size : Int) 1 4).bind fun t509 => (if t509 = true then (some (x4, true)) else (some (0, false))))
end
def spec_ParseHex.f (k : Nat) (a0 : ByteArray) : Option (Int × Bool) := spec_ParseHex.l0 k a0 0 0

theorem spec_ParseHex.calls (k : Nat) (a0 : ByteArray) (r1 : Int) (r2 : Bool) (w : World) (h : spec_ParseHex.f k a0 = some (r1, r2)) :
  Calls Tryz.prog 105 #[.string a0] w fun e w' => e = .returned (.tuple #[.int .i64 r1, .bool r2]) ∧ Drawn0 w w' := by
 have H : (spec_ParseHex.l0 k a0 0 0) = some (r1, r2) := h; clear h; have H' := aK H; clear H; go_enter Tryz.func105, Tryz.ntmps105
 go_wp2
 go_loopg [4, 5] k (fun kq v4 v5 w' => ∃ (x4_1 : Int) (x5_1 : Int), v4 = .int .i64 x4_1 ∧ v5 = .int .i64 x5_1 ∧ Aside0 (spec_ParseHex.l0 kq a0 x4_1 x5_1 = some (r1, r2)) ∧ Aside0 (kq ≤ k) ∧ Drawn0 w w')
 case atStart => exact ⟨(0), (0), q3_, q3_, H', ⟨Nat.le_refl _⟩, q10_⟩
 case round =>
  clear H'; (try clear c1); obtain ⟨x4_1, x5_1, rfl, rfl, HA, HK1, ⟨m1, rfl⟩⟩ := hrel; cases gk with
  | zero => exact absurd HA.1 (by simp [spec_ParseHex.l0])
  | succ k1 =>
   have H := HA.1; clear HA; simp only [spec_ParseHex.l0] at H; have HC2 := aK H; clear H; go_upto_region 3 with (fail)
   go_cut [14] (fun v14 wc => ∃ (kq : Nat) (x14_1 : Bool), v14 = .bool x14_1 ∧ Aside0 (spec_ParseHex.j1 kq a0 x4_1 x5_1 x14_1 = some (r1, r2)) ∧ Aside0 (kq ≤ k1) ∧ Drawn0 w wc)
   case first =>
    have H := HC2.1; clear HC2; by_cases c3 : x5_1 < (a0.size : Int)
    ·rw [if_pos c3] at H; have c3b0 := decide_eq_true c3; clear c3; (first | rw [c3b0] | rw [c3i0] | (simp only [i64_w, i32_w]; rw [c3b0]) | skip); have H' := aK H; clear H; go_wp2
     go_meet
     case rel => exact ⟨_, (decide (x5_1 < 5)), q3_, H', ⟨q85_⟩, q10_⟩
    ·rw [if_neg c3] at H; have c3b0 := decide_eq_false c3; clear c3; (first | rw [c3b0] | rw [c3i0] | (simp only [i64_w, i32_w]; rw [c3b0]) | skip); have H' := aK H; clear H; go_wp2
     go_meet
     case rel => exact ⟨_, (false), q3_, H', ⟨q85_⟩, q10_⟩
   case rest =>
    clear HC2; (try clear c1); (try clear p2); (try clear c3); (try clear c3b0); obtain ⟨kq, x14_1, rfl, HA, HJ1, ⟨mc1, rfl⟩⟩ := hcut; cases kq with
    | zero => exact absurd HA.1 (by simp [spec_ParseHex.j1])
    | succ kj1 =>
     have H := HA.1; clear HA; simp only [spec_ParseHex.j1] at H; by_cases c4 : x14_1 = true
     ·subst c4; rw [if_pos rfl] at H; by_cases c5 : 0 ≤ x5_1
      ·rw [if_pos c5] at H; have c5b0 := decide_eq_true c5; clear c5; by_cases c6 : x5_1 < (a0.size : Int)
       ·rw [if_pos c6] at H; have c6b0 := decide_eq_true c6; clear c6; replace H := oB H; obtain ⟨t508, A8, H⟩ := H; (try dsimp only at H); have HC9 := aK H; clear H; have p7 : 0 ≤ (x5_1 : Int) := of_decide_eq_true q4_; have q7 : x5_1 < (a0.size : Int) := of_decide_eq_true q4_; have hx7 := bt_at a0 x5_1; replace p7 := eq_true p7; replace q7 := eq_true q7; go_upto_if 22 with (first | ((with_reducible refine gate_callee (f := 132) rfl ?_); refine goesL_ (some 20) rfl rfl Tryz.func132 (by kernel_rfl) rfl #[.int .u8 (bt a0 x5_1)] rfl q2_ ?_; (with_reducible refine (spec_l1HexOf.calls (bt a0 x5_1) t508 _ A8.1).mono ?_); rintro e w' ⟨rfl, ⟨nd, rfl⟩⟩; refine ⟨_, rfl, ?_⟩))
        (try simp only [Act.put, sI, sZ, sS]); have H := HC9.1; clear HC9; by_cases c10 : t508 < 0
        ·rw [if_pos c10] at H; have c10b0 := decide_eq_true c10; clear c10; (first | rw [c10b0] | rw [c10i0] | (simp only [i64_w, i32_w]; rw [c10b0]) | skip); simp only [Option.some.injEq, Prod.mk.injEq] at H; obtain ⟨rfl, rfl⟩ := H; go_wp2
         go_ret2
         exact ⟨q3_, q10_⟩
        ·rw [if_neg c10] at H; have c10b0 := decide_eq_false c10; clear c10; (first | rw [c10b0] | rw [c10i0] | (simp only [i64_w, i32_w]; rw [c10b0]) | skip); have H' := aK H; clear H; go_wp2
         go_roundg kj1
         case measure => have := HK1.1; have := HJ1.1; omega
         case rel => exact ⟨(wrap64 ((wrap64 (x4_1 * 16)) + t508)), (wrap64 (x5_1 + 1)), q3_, q3_, H', ⟨q174_⟩, q10_⟩
       ·rw [if_neg c6] at H; exact absurd H (by simp)
      ·rw [if_neg c5] at H; exact absurd H (by simp)
     ·replace c4 := Bool.eq_false_iff.mpr c4; subst c4; rw [if_neg (show ¬ (false = true) by decide)] at H; replace H := oB H; obtain ⟨t509, A11, H⟩ := H; (try dsimp only at H); have HC12 := aK H; clear H; go_upto_if 30 with (first | ((with_reducible refine gate_callee (f := 84) rfl ?_); refine goesL_ (some 29) rfl rfl Tryz.func84 (by kernel_rfl) rfl #[.int .i64 (a0.size : Int), .int .i64 1, .int .i64 4] rfl q2_ ?_; (with_reducible refine (spec_l1In.calls (a0.size : Int) 1 4 t509 _ A11.1).mono ?_); rintro e w' ⟨rfl, ⟨nd, rfl⟩⟩; refine ⟨_, rfl, ?_⟩))
      (try simp only [Act.put, sI, sZ, sS]); have H := HC12.1; clear HC12; by_cases c13 : t509 = true
      ·subst c13; rw [if_pos rfl] at H; simp only [Option.some.injEq, Prod.mk.injEq] at H; obtain ⟨rfl, rfl⟩ := H; go_wp2
       go_ret2
       exact ⟨q3_, q10_⟩
      ·replace c13 := Bool.eq_false_iff.mpr c13; subst c13; rw [if_neg (show ¬ (false = true) by decide)] at H; simp only [Option.some.injEq, Prod.mk.injEq] at H; obtain ⟨rfl, rfl⟩ := H; go_wp2
       go_ret2
       exact ⟨q3_, q10_⟩

mutual
def spec_l4Size.j1 : Nat → List Int → Int → Int → Option (Int × Int × Int)
 | 0, _, _, _ => none
 | k + 1, x0, x1, x7 => if x7 = (wrap64 (x1 + 5)) then (some (0, 0, 400)) else (if x7 < (x0.length : Int) then (spec_l4Size.j2 k x0 x1 x7 true) else (spec_l4Size.j2 k x0 x1 x7 (decide (x7 > x1))))
def spec_l4Size.j2 : Nat → List Int → Int → Int → Bool → Option (Int × Int × Int)
 | 0, _, _, _, _ => none
 | k + 1, x0, x1, x7, x44 => if x44 = true then (if 0 ≤ x1 then (if x1 ≤ x7 then (if x7 ≤ (x0.length : Int) then ((spec_ParseHex.f k (strOfNums ((x0.take (x7 : Int).toNat).drop (x1 : Int).toNat))).bind fun bt512 => (if bt512.2 = true then (spec_l4Size.j3 k x0 x1 x7) else (some (0, 0, 400)))) else (none)) else (none)) else (none)) else (spec_l4Size.j3 k x0 x1 x7)
def spec_l4Size.j3 : Nat → List Int → Int → Int → Option (Int × Int × Int)
 | 0, _, _, _ => none
 | k + 1, x0, x1, x7 => if (wrap64 (x7 + 1)) ≥ (x0.length : Int) then (some (0, 0, 1)) else (if 0 ≤ (wrap64 (x7 + 1)) then (if (wrap64 (x7 + 1)) < (x0.length : Int) then (if (rd x0 (wrap64 (x7 + 1))) = 10 then (if 0 ≤ x1 then (if x1 ≤ x7 then (if x7 ≤ (x0.length : Int) then ((spec_ParseHex.f k (strOfNums ((x0.take (x7 : Int).toNat).drop (x1 : Int).toNat))).bind fun bt516 => (some (bt516.1, wrap64 (x7 + 2), 0))) else (none)) else (none)) else (none)) else (some (0, 0, 400))) else (none)) else (none))
def spec_l4Size.l0 : Nat → List Int → Int → Int → Option (Int × Int × Int)
 | 0, _, _, _ => none
 | k + 1, x0, x1, x7 => if x7 < (x0.length : Int) then (if x7 < (wrap64 (x1 + 5)) then (if 0 ≤ x7 then (if (rd x0 x7) = 13 then (spec_l4Size.j1 k x0 x1 x7) else (spec_l4Size.l0 k x0 x1 (wrap64 (x7 + 1)))) else (none)) else (spec_l4Size.j1 k x0 x1 x7)) else (spec_l4Size.j1 k x0 x1 x7)
end
def spec_l4Size.f (k : Nat) (l0 : List Int) (a1 : Int) : Option (Int × Int × Int) := spec_l4Size.l0 k l0 a1 a1

theorem spec_l4Size.calls (k : Nat) (A0 : Option Addr) (c0 : Nat) (l0 : List Int) (a1 : Int) (r1 : Int) (r2 : Int) (r3 : Int) (w : World) (hr0 : Kd.C (Kd.int .u8) w A0 l0.length l0) (hc0 : l0.length ≤ c0) (h : spec_l4Size.f k l0 a1 = some (r1, r2, r3)) :
  Calls Tryz.prog 85 #[.slice A0 l0.length c0, .int .i64 a1] w fun e w' => e = .returned (.tuple #[.int .i64 r1, .int .i64 r2, .int .i64 r3]) ∧ Drawn0 w w' := by
 have HR0 := aK hr0; have HC0 := aK hc0; clear hr0 hc0; have H : (spec_l4Size.l0 k l0 a1 a1) = some (r1, r2, r3) := h; clear h; have HC3 := aK H; clear H; go_enter Tryz.func85, Tryz.ntmps85
 go_upto_block 0 with (fail)
 go_cut [7] (fun v7 wc => ∃ (kq : Nat) (x7_2 : Int), v7 = .int .i64 x7_2 ∧ Aside0 (spec_l4Size.j1 kq l0 a1 x7_2 = some (r1, r2, r3)) ∧ Aside0 (kq ≤ k) ∧ Drawn0 w wc)
 case first =>
  have H := HC3.1; clear HC3; have H' := aK H; clear H; go_wp2
  go_loopg [7] k (fun kq v7 w' => ∃ (x7_1 : Int), v7 = .int .i64 x7_1 ∧ Aside0 (spec_l4Size.l0 kq l0 a1 x7_1 = some (r1, r2, r3)) ∧ Aside0 (kq ≤ k) ∧ Drawn0 w w')
  case atStart => exact ⟨(a1), q3_, H', ⟨Nat.le_refl _⟩, q10_⟩
  case round =>
   clear H'; (try clear p2); obtain ⟨x7_1, rfl, HA, HK1, ⟨m1, rfl⟩⟩ := hrel; cases gk with
   | zero => exact absurd HA.1 (by simp [spec_l4Size.l0])
   | succ k1 =>
    have H := HA.1; clear HA; simp only [spec_l4Size.l0] at H; by_cases c4 : x7_1 < (l0.length : Int)
    ·rw [if_pos c4] at H; have c4b0 := decide_eq_true c4; clear c4; (first | rw [c4b0] | rw [c4i0] | (simp only [i64_w, i32_w]; rw [c4b0]) | skip); by_cases c5 : x7_1 < (wrap64 (a1 + 5))
     ·rw [if_pos c5] at H; have c5b0 := decide_eq_true c5; clear c5; by_cases c6 : 0 ≤ x7_1
      ·rw [if_pos c6] at H; have c6b0 := decide_eq_true c6; clear c6; by_cases c7 : (rd l0 x7_1) = 13
       ·rw [if_pos c7] at H; have c7b0 := beq_iff_eq.mpr c7; have c7b1 : ((rd l0 x7_1) != 13) = false := bne_eq_false_iff_eq.mpr c7; clear c7; have H' := aK H; clear H; have p510 : 0 ≤ (x7_1 : Int) := of_decide_eq_true q4_; have q510 : x7_1 < (l0.length : Int) := of_decide_eq_true q4_; obtain ⟨ad510, e510, hx510_0⟩ := Kd.at_int HR0.1 x7_1 p510 q510; cases e510
        replace p510 := eq_true p510; replace q510 := eq_true q510; go_wp2
        go_meet
        case rel => exact ⟨_, (x7_1), q3_, H', ⟨q85_⟩, q10_⟩
       ·rw [if_neg c7] at H; have c7b0 := beq_eq_false_iff_ne.mpr c7; have c7b1 : ((rd l0 x7_1) != 13) = true := bne_iff_ne.mpr c7; have H' := aK H; clear H; have p510 : 0 ≤ (x7_1 : Int) := of_decide_eq_true q4_; have q510 : x7_1 < (l0.length : Int) := of_decide_eq_true q4_; obtain ⟨ad510, e510, hx510_0⟩ := Kd.at_int HR0.1 x7_1 p510 q510; cases e510
        replace p510 := eq_true p510; replace q510 := eq_true q510; go_wp2
        go_roundg k1
        case measure => have := HK1.1; omega
        case rel => exact ⟨(wrap64 (x7_1 + 1)), q3_, H', ⟨q82_⟩, q10_⟩
      ·rw [if_neg c6] at H; exact absurd H (by simp)
     ·rw [if_neg c5] at H; have c5b0 := decide_eq_false c5; clear c5; have H' := aK H; clear H; go_wp2
      go_meet
      case rel => exact ⟨_, (x7_1), q3_, H', ⟨q85_⟩, q10_⟩
    ·rw [if_neg c4] at H; have c4b0 := decide_eq_false c4; clear c4; (first | rw [c4b0] | rw [c4i0] | (simp only [i64_w, i32_w]; rw [c4b0]) | skip); have H' := aK H; clear H; go_wp2
     go_meet
     case rel => exact ⟨_, (x7_1), q3_, H', ⟨q85_⟩, q10_⟩
 case rest =>
  clear HC3; (try clear p2); (try clear c4); (try clear c4b0); (try clear c5); (try clear c5b0); (try clear p5); (try clear q5); (try clear hx5); (try clear c6); (try clear c6b0); (try clear p6); (try clear c7); (try clear c7b0); (try clear c7b1); (try clear hx510_0); (try clear p2); (try clear p510); (try clear q510); obtain ⟨kq, x7_2, rfl, HA, HJ2, ⟨mc2, rfl⟩⟩ := hcut; cases kq with
  | zero => exact absurd HA.1 (by simp [spec_l4Size.j1])
  | succ kj2 =>
   have H := HA.1; clear HA; simp only [spec_l4Size.j1] at H; by_cases c8 : x7_2 = (wrap64 (a1 + 5))
   ·rw [if_pos c8] at H; have c8b0 := beq_iff_eq.mpr c8; have c8b1 : (x7_2 != (wrap64 (a1 + 5))) = false := bne_eq_false_iff_eq.mpr c8; clear c8; simp only [Option.some.injEq, Prod.mk.injEq] at H; obtain ⟨rfl, rfl, rfl⟩ := H; go_wp2
    go_ret3
    exact ⟨q3_, q10_⟩
   ·rw [if_neg c8] at H; have c8b0 := beq_eq_false_iff_ne.mpr c8; have c8b1 : (x7_2 != (wrap64 (a1 + 5))) = true := bne_iff_ne.mpr c8; have HC9 := aK H; clear H; go_upto_region 6 with (fail)
    go_cut [44] (fun v44 wc => ∃ (kq : Nat) (x44_8 : Bool), v44 = .bool x44_8 ∧ Aside0 (spec_l4Size.j2 kq l0 a1 x7_2 x44_8 = some (r1, r2, r3)) ∧ Aside0 (kq ≤ kj2) ∧ Drawn0 w wc)
    case first =>
     have H := HC9.1; clear HC9; by_cases c10 : x7_2 < (l0.length : Int)
     ·rw [if_pos c10] at H; have c10b0 := decide_eq_true c10; clear c10; (first | rw [c10b0] | rw [c10i0] | (simp only [i64_w, i32_w]; rw [c10b0]) | skip); have H' := aK H; clear H; go_wp2
      go_meet
      case rel => exact ⟨_, (true), q3_, H', ⟨by have := HJ2.1; first | omega | exact Nat.le_refl _⟩, q10_⟩
     ·rw [if_neg c10] at H; have c10b0 := decide_eq_false c10; clear c10; (first | rw [c10b0] | rw [c10i0] | (simp only [i64_w, i32_w]; rw [c10b0]) | skip); have H' := aK H; clear H; go_wp2
      go_meet
      case rel => exact ⟨_, (decide (x7_2 > a1)), q3_, H', ⟨by have := HJ2.1; first | omega | exact Nat.le_refl _⟩, q10_⟩
    case rest =>
     clear HC9; (try clear c1); (try clear c2); (try clear p2); (try clear c4); (try clear c4b0); (try clear c5); (try clear c5b0); (try clear p5); (try clear q5); (try clear hx5); (try clear c6); (try clear c6b0); (try clear p6); (try clear c7); (try clear c7b0); (try clear c7b1); (try clear c8); (try clear c8b0); (try clear c8b1); (try clear c10); (try clear c10b0); (try clear hx510_0); (try clear p2); (try clear p5); (try clear p510); (try clear p6); (try clear q5); (try clear q510); obtain ⟨kq, x44_8, rfl, HA, HJ8, ⟨mc8, rfl⟩⟩ := hcut; cases kq with
     | zero => exact absurd HA.1 (by simp [spec_l4Size.j2])
     | succ kj8 =>
      have H := HA.1; clear HA; simp only [spec_l4Size.j2] at H; have HC11 := aK H; clear H; go_upto_if 44 with (fail)
      go_cut [] (fun wc => ∃ (kq : Nat), Aside0 (spec_l4Size.j3 kq l0 a1 x7_2 = some (r1, r2, r3)) ∧ Aside0 (kq ≤ kj8) ∧ Drawn0 w wc)
      case first =>
       have H := HC11.1; clear HC11; by_cases c12 : x44_8 = true
       ·subst c12; rw [if_pos rfl] at H; by_cases c13 : 0 ≤ a1
        ·rw [if_pos c13] at H; have c13b0 := eq_true c13; have c13b1 := decide_eq_true c13; clear c13; by_cases c14 : a1 ≤ x7_2
         ·rw [if_pos c14] at H; have c14b0 := eq_true c14; have c14b1 := decide_eq_true c14; clear c14; by_cases c15 : x7_2 ≤ (l0.length : Int)
          ·rw [if_pos c15] at H; have c15b0 := eq_true c15; have c15b1 := decide_eq_true c15; clear c15; replace H := oB H; obtain ⟨⟨t512, t513⟩, A16, H⟩ := H; (try dsimp only at H); have HC17 := aK H; clear H; obtain ⟨i018, hi018, _, hsz18, _⟩ := info_parts info5; obtain ⟨A18, hcut18, hA18, hC18⟩ := print_mid_of (P := Tryz.prog) (Value.int .u8) 0 22 5 .i64 .i64 Tryz.underlying22 hi018 hsz18 A0 c0 l0 a1 x7_2 (of_decide_eq_true q4_) (by first | omega | exact of_decide_eq_true q4_) (of_decide_eq_true q4_) HC0.1; have HR511 := aK (Kd.C_of_reads (h1 := fun _ => rfl) (hA18 _ (Kd.reads_of_C HR0.1))); have HC511 := aK hC18; clear hA18 hC18 hi018 hsz18; have hq_ := HR511.1; rw [show ((l0.take (x7_2 : Int).toNat).drop (a1 : Int).toNat).length = (x7_2.toNat - a1.toNat) from q173_] at hq_; have hcv19 := Kd.C_string (P := Tryz.prog) (A := A18) (c := (c0 - a1.toNat)) Tryz.underlying22 Tryz.underlying5 Tryz.underlying9 hq_; have hcv20 := fun nq_ : Nat => Kd.C_string (P := Tryz.prog) (A := A18) (c := (c0 - a1.toNat)) Tryz.underlying22 Tryz.underlying5 Tryz.underlying9 (Kd.C_drewN hq_ nq_)
           clear hq_; go_upto_if 55 with (first | ((with_reducible refine gate_callee (f := 105) rfl ?_); refine goesL_ (some 51) rfl rfl Tryz.func105 (by kernel_rfl) rfl #[.string (strOfNums ((l0.take (x7_2 : Int).toNat).drop (a1 : Int).toNat))] rfl q2_ ?_; (with_reducible refine (spec_ParseHex.calls kj8 (strOfNums ((l0.take (x7_2 : Int).toNat).drop (a1 : Int).toNat)) t512 t513 _ A16.1).mono ?_); rintro e w' ⟨rfl, ⟨nd, rfl⟩⟩; refine ⟨_, rfl, ?_⟩))
           (try simp only [Act.put, sI, sZ, sS]); have H := HC17.1; clear HC17; by_cases c21 : t513 = true
           ·subst c21; rw [if_pos rfl] at H; have H' := aK H; clear H; go_wp2
            go_meet
            case rel => exact ⟨_, H', ⟨by have := HJ2.1; have := HJ8.1; first | omega | exact Nat.le_refl _⟩, q10_⟩
           ·replace c21 := Bool.eq_false_iff.mpr c21; subst c21; rw [if_neg (show ¬ (false = true) by decide)] at H; simp only [Option.some.injEq, Prod.mk.injEq] at H; obtain ⟨rfl, rfl, rfl⟩ := H; go_wp2
            go_ret3
            exact ⟨q3_, q10_⟩
          ·rw [if_neg c15] at H; exact absurd H (by simp)
         ·rw [if_neg c14] at H; exact absurd H (by simp)
        ·rw [if_neg c13] at H; exact absurd H (by simp)
       ·replace c12 := Bool.eq_false_iff.mpr c12; subst c12; rw [if_neg (show ¬ (false = true) by decide)] at H; have H' := aK H; clear H; go_wp2
        go_meet
        case rel => exact ⟨_, H', ⟨by have := HJ2.1; have := HJ8.1; first | omega | exact Nat.le_refl _⟩, q10_⟩
      case rest =>
       clear HC11; (try clear c1); (try clear hcv1); (try clear c2); (try clear p2); (try clear hcv2); (try clear c4); (try clear c4b0); (try clear c5); (try clear c5b0); (try clear p5); (try clear q5); (try clear hx5); (try clear c6); (try clear c6b0); (try clear p6); (try clear c7); (try clear c7b0); (try clear c7b1); (try clear c8); (try clear c8b0); (try clear c8b1); (try clear c10); (try clear c10b0); (try clear c12); (try clear c13); (try clear c13b0); (try clear c13b1); (try clear c14); (try clear c14b0); (try clear c14b1); (try clear c15); (try clear c15b0); (try clear c15b1); (try clear hcv19); (try clear hcv20); (try clear c21); (try clear hx510_0); (try clear p2); (try clear p5); (try clear p510); (try clear p6); (try clear q5); (try clear q510); obtain ⟨kq, HA, HJ10, ⟨mc10, rfl⟩⟩ := hcut; cases kq with
       | zero => exact absurd HA.1 (by simp [spec_l4Size.j3])
       | succ kj10 =>
        have H := HA.1; clear HA; simp only [spec_l4Size.j3] at H; by_cases c22 : (wrap64 (x7_2 + 1)) ≥ (l0.length : Int)
        ·rw [if_pos c22] at H; have c22b0 : decide ((l0.length : Int) ≤ (wrap64 (x7_2 + 1))) = true := decide_eq_true c22; clear c22; simp only [Option.some.injEq, Prod.mk.injEq] at H; obtain ⟨rfl, rfl, rfl⟩ := H; go_wp2
         go_ret3
         exact ⟨q3_, q10_⟩
        ·rw [if_neg c22] at H; have c22b0 : decide ((l0.length : Int) ≤ (wrap64 (x7_2 + 1))) = false := decide_eq_false c22; clear c22; obtain ⟨ji23, hji23⟩ : ∃ j_ : Int, (wrap64 (x7_2 + 1)) = j_ := ⟨_, rfl⟩; replace H : (if 0 ≤ (ji23) then (if (ji23) < (l0.length : Int) then (if (rd l0 (ji23)) = 10 then (if 0 ≤ a1 then (if a1 ≤ x7_2 then (if x7_2 ≤ (l0.length : Int) then ((spec_ParseHex.f kj10 (strOfNums ((l0.take (x7_2 : Int).toNat).drop (a1 : Int).toNat))).bind fun bt516 => (some (bt516.1, wrap64 (x7_2 + 2), 0))) else (none)) else (none)) else (none)) else (some (0, 0, 400))) else (none)) else (none)) = some (r1, r2, r3) := by first | (rw [hji23] at H; exact H) | (simp only [hji23] at H ⊢; exact H)
         (try rw [hji23] at c22b0); have hji23w : (IntKind.i64.wrap (x7_2 + 1)) = ji23 := (i64_w _).trans hji23; by_cases c24 : 0 ≤ (ji23)
         ·rw [if_pos c24] at H; have c24b0 := decide_eq_true c24; clear c24; by_cases c25 : (ji23) < (l0.length : Int)
          ·rw [if_pos c25] at H; have c25b0 := decide_eq_true c25; clear c25; by_cases c26 : (rd l0 (ji23)) = 10
           ·rw [if_pos c26] at H; have c26b0 := beq_iff_eq.mpr c26; have c26b1 : ((rd l0 (ji23)) != 10) = false := bne_eq_false_iff_eq.mpr c26; clear c26; by_cases c27 : 0 ≤ a1
            ·rw [if_pos c27] at H; have c27b0 := eq_true c27; have c27b1 := decide_eq_true c27; clear c27; by_cases c28 : a1 ≤ x7_2
             ·rw [if_pos c28] at H; have c28b0 := eq_true c28; have c28b1 := decide_eq_true c28; clear c28; by_cases c29 : x7_2 ≤ (l0.length : Int)
              ·rw [if_pos c29] at H; have c29b0 := eq_true c29; have c29b1 := decide_eq_true c29; clear c29; replace H := oB H; obtain ⟨⟨t516, t517⟩, A30, H⟩ := H; (try dsimp only at H); simp only [Option.some.injEq, Prod.mk.injEq] at H; obtain ⟨rfl, rfl, rfl⟩ := H; have p514 : 0 ≤ ((ji23) : Int) := of_decide_eq_true q4_; have q514 : (ji23) < (l0.length : Int) := of_decide_eq_true q4_; obtain ⟨ad514, e514, hx514_0⟩ := Kd.at_int HR0.1 (ji23) p514 q514; cases e514
               replace p514 := eq_true p514; replace q514 := eq_true q514; obtain ⟨i031, hi031, _, hsz31, _⟩ := info_parts info5; obtain ⟨A31, hcut31, hA31, hC31⟩ := print_mid_of (P := Tryz.prog) (Value.int .u8) 0 22 5 .i64 .i64 Tryz.underlying22 hi031 hsz31 (some ad514) c0 l0 a1 x7_2 (of_decide_eq_true q4_) (by first | omega | exact of_decide_eq_true q4_) (of_decide_eq_true q4_) HC0.1; have HR515 := aK (Kd.C_of_reads (h1 := fun _ => rfl) (hA31 _ (Kd.reads_of_C HR0.1))); have HC515 := aK hC31; clear hA31 hC31 hi031 hsz31; have hq_ := HR515.1; rw [show ((l0.take (x7_2 : Int).toNat).drop (a1 : Int).toNat).length = (x7_2.toNat - a1.toNat) from q173_] at hq_; have hcv32 := Kd.C_string (P := Tryz.prog) (A := A31) (c := (c0 - a1.toNat)) Tryz.underlying22 Tryz.underlying5 Tryz.underlying9 hq_; have hcv33 := fun nq_ : Nat => Kd.C_string (P := Tryz.prog) (A := A31) (c := (c0 - a1.toNat)) Tryz.underlying22 Tryz.underlying5 Tryz.underlying9 (Kd.C_drewN hq_ nq_)
               clear hq_; go_wp2_with (first | ((with_reducible refine gate_callee (f := 105) rfl ?_); refine goesL_ (some 73) rfl rfl Tryz.func105 (by kernel_rfl) rfl #[.string (strOfNums ((l0.take (x7_2 : Int).toNat).drop (a1 : Int).toNat))] rfl q2_ ?_; (with_reducible refine (spec_ParseHex.calls kj10 (strOfNums ((l0.take (x7_2 : Int).toNat).drop (a1 : Int).toNat)) t516 t517 _ A30.1).mono ?_); rintro e w' ⟨rfl, ⟨nd, rfl⟩⟩; refine ⟨_, rfl, ?_⟩))
               go_ret3
               exact ⟨q168_, q10_⟩
              ·rw [if_neg c29] at H; exact absurd H (by simp)
             ·rw [if_neg c28] at H; exact absurd H (by simp)
            ·rw [if_neg c27] at H; exact absurd H (by simp)
           ·rw [if_neg c26] at H; have c26b0 := beq_eq_false_iff_ne.mpr c26; have c26b1 : ((rd l0 (ji23)) != 10) = true := bne_iff_ne.mpr c26; simp only [Option.some.injEq, Prod.mk.injEq] at H; obtain ⟨rfl, rfl, rfl⟩ := H; have p514 : 0 ≤ ((ji23) : Int) := of_decide_eq_true q4_; have q514 : (ji23) < (l0.length : Int) := of_decide_eq_true q4_; obtain ⟨ad514, e514, hx514_0⟩ := Kd.at_int HR0.1 (ji23) p514 q514; cases e514
            replace p514 := eq_true p514; replace q514 := eq_true q514; go_wp2
            go_ret3
            exact ⟨q168_, q10_⟩
          ·rw [if_neg c25] at H; exact absurd H (by simp)
         ·rw [if_neg c24] at H; exact absurd H (by simp)

def spec_l4End.f (l0 : List Int) (a1 : Int) : Option (Int) := if a1 ≥ (l0.length : Int) then (some 1) else (if 0 ≤ a1 then (if a1 < (l0.length : Int) then (if (rd l0 a1) = 13 then (if (wrap64 (a1 + 1)) ≥ (l0.length : Int) then (some 1) else (if 0 ≤ (wrap64 (a1 + 1)) then (if (wrap64 (a1 + 1)) < (l0.length : Int) then (if (rd l0 (wrap64 (a1 + 1))) = 10 then (some 0) else (some 400)) else (none)) else (none))) else (some 400)) else (none)) else (none))
theorem spec_l4End.calls (A0 : Option Addr) (c0 : Nat) (l0 : List Int) (a1 : Int) (r : Int) (w : World) (hr0 : Kd.C (Kd.int .u8) w A0 l0.length l0) (hc0 : l0.length ≤ c0) (h : spec_l4End.f l0 a1 = some r) :
  Calls Tryz.prog 86 #[.slice A0 l0.length c0, .int .i64 a1] w fun e w' => e = .returned (.int .i64 r) ∧ Drawn0 w w' := by
 have HR0 := aK hr0; have HC0 := aK hc0; clear hr0 hc0; have H := h; clear h; unfold spec_l4End.f at H
 by_cases c3 : a1 ≥ (l0.length : Int)
 ·rw [if_pos c3] at H; have c3b0 : decide ((l0.length : Int) ≤ a1) = true := decide_eq_true c3; clear c3; obtain rfl := Option.some.inj H; go_enter Tryz.func86, Tryz.ntmps86
  go_wp2
  go_ret
  exact ⟨q3_, q10_⟩
 ·rw [if_neg c3] at H; have c3b0 : decide ((l0.length : Int) ≤ a1) = false := decide_eq_false c3; clear c3; by_cases c4 : 0 ≤ a1
  ·rw [if_pos c4] at H; have c4b0 := decide_eq_true c4; clear c4; by_cases c5 : a1 < (l0.length : Int)
   ·rw [if_pos c5] at H; have c5b0 := decide_eq_true c5; clear c5; by_cases c6 : (rd l0 a1) = 13
    ·rw [if_pos c6] at H; have c6b0 := beq_iff_eq.mpr c6; have c6b1 : ((rd l0 a1) != 13) = false := bne_eq_false_iff_eq.mpr c6; clear c6; by_cases c7 : (wrap64 (a1 + 1)) ≥ (l0.length : Int)
     ·rw [if_pos c7] at H; have c7b0 : decide ((l0.length : Int) ≤ (wrap64 (a1 + 1))) = true := decide_eq_true c7; clear c7; obtain rfl := Option.some.inj H; have p518 : 0 ≤ (a1 : Int) := of_decide_eq_true q4_; have q518 : a1 < (l0.length : Int) := of_decide_eq_true q4_; obtain ⟨ad518, e518, hx518_0⟩ := Kd.at_int HR0.1 a1 p518 q518; cases e518
      replace p518 := eq_true p518; replace q518 := eq_true q518; go_enter Tryz.func86, Tryz.ntmps86
      go_wp2
      go_ret
      exact ⟨q3_, q10_⟩
     ·rw [if_neg c7] at H; have c7b0 : decide ((l0.length : Int) ≤ (wrap64 (a1 + 1))) = false := decide_eq_false c7; clear c7; obtain ⟨ji8, hji8⟩ : ∃ j_ : Int, (wrap64 (a1 + 1)) = j_ := ⟨_, rfl⟩; replace H : (if 0 ≤ (ji8) then (if (ji8) < (l0.length : Int) then (if (rd l0 (ji8)) = 10 then (some 0) else (some 400)) else (none)) else (none)) = some r := by first | (rw [hji8] at H; exact H) | (simp only [hji8] at H ⊢; exact H)
      (try rw [hji8] at c7b0); have hji8w : (IntKind.i64.wrap (a1 + 1)) = ji8 := (i64_w _).trans hji8; by_cases c9 : 0 ≤ (ji8)
      ·rw [if_pos c9] at H; have c9b0 := decide_eq_true c9; clear c9; by_cases c10 : (ji8) < (l0.length : Int)
       ·rw [if_pos c10] at H; have c10b0 := decide_eq_true c10; clear c10; by_cases c11 : (rd l0 (ji8)) = 10
        ·rw [if_pos c11] at H; have c11b0 := beq_iff_eq.mpr c11; have c11b1 : ((rd l0 (ji8)) != 10) = false := bne_eq_false_iff_eq.mpr c11; clear c11; obtain rfl := Option.some.inj H; have p518 : 0 ≤ (a1 : Int) := of_decide_eq_true q4_; have q518 : a1 < (l0.length : Int) := of_decide_eq_true q4_; obtain ⟨ad518, e518, hx518_0⟩ := Kd.at_int HR0.1 a1 p518 q518; cases e518
         replace p518 := eq_true p518; replace q518 := eq_true q518; have p519 : 0 ≤ ((ji8) : Int) := of_decide_eq_true q4_; have q519 : (ji8) < (l0.length : Int) := of_decide_eq_true q4_; obtain ⟨ad519, e519, hx519_0⟩ := Kd.at_int HR0.1 (ji8) p519 q519; obtain rfl : ad518 = ad519 := (by injection e519); replace p519 := eq_true p519; replace q519 := eq_true q519; go_enter Tryz.func86, Tryz.ntmps86
         go_wp2
         go_ret
         exact ⟨q169_, q10_⟩
        ·rw [if_neg c11] at H; have c11b0 := beq_eq_false_iff_ne.mpr c11; have c11b1 : ((rd l0 (ji8)) != 10) = true := bne_iff_ne.mpr c11; obtain rfl := Option.some.inj H; have p518 : 0 ≤ (a1 : Int) := of_decide_eq_true q4_; have q518 : a1 < (l0.length : Int) := of_decide_eq_true q4_; obtain ⟨ad518, e518, hx518_0⟩ := Kd.at_int HR0.1 a1 p518 q518; cases e518
         replace p518 := eq_true p518; replace q518 := eq_true q518; have p519 : 0 ≤ ((ji8) : Int) := of_decide_eq_true q4_; have q519 : (ji8) < (l0.length : Int) := of_decide_eq_true q4_; obtain ⟨ad519, e519, hx519_0⟩ := Kd.at_int HR0.1 (ji8) p519 q519; obtain rfl : ad518 = ad519 := (by injection e519); replace p519 := eq_true p519; replace q519 := eq_true q519; go_enter Tryz.func86, Tryz.ntmps86
         go_wp2
         go_ret
         exact ⟨q169_, q10_⟩
       ·rw [if_neg c10] at H; exact absurd H (by simp)
      ·rw [if_neg c9] at H; exact absurd H (by simp)
    ·rw [if_neg c6] at H; have c6b0 := beq_eq_false_iff_ne.mpr c6; have c6b1 : ((rd l0 a1) != 13) = true := bne_iff_ne.mpr c6; obtain rfl := Option.some.inj H; have p518 : 0 ≤ (a1 : Int) := of_decide_eq_true q4_; have q518 : a1 < (l0.length : Int) := of_decide_eq_true q4_; obtain ⟨ad518, e518, hx518_0⟩ := Kd.at_int HR0.1 a1 p518 q518; cases e518
     replace p518 := eq_true p518; replace q518 := eq_true q518; go_enter Tryz.func86, Tryz.ntmps86
     go_wp2
     go_ret
     exact ⟨q3_, q10_⟩
   ·rw [if_neg c5] at H; exact absurd H (by simp)
  ·rw [if_neg c4] at H; exact absurd H (by simp)

end Go.Proofs.YtaajhdljdmbhhaaGreatDoor.GFnChunks
