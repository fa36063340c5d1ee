-- by gprint.py (this session's program over the kit's print.py) (a twelfth state) out of the translation. Not trusted: Lean checks it.
import Derived.Test.YtfncjddolbghlaaGreatDoorGFnRespsx0
import Derived.Test.YtfncjddolbghlaaGreatDoorGFnRespsx2
import Derived.Test.YtfncjddolbghlaaGreatDoorGFnRespsx3
namespace Go.Proofs.YtfncjddolbghlaaGreatDoor.GFnResps
open Go.RowKit Go.Proofs.YtfncjddolbghlaaGreatDoorW.PrintWords Go.Proofs.YtfncjddolbghlaaGreatDoorW.PrintLast Go.Proofs.YtfncjddolbghlaaGreatDoorW.PrintMore
attribute [local go_sem] max2_int min2_int max_two min_two max_three min_three max_four min_four   -- for this text's walks alone
set_option linter.unusedVariables false
set_option linter.unusedSimpArgs false
set_option maxRecDepth 100000
set_option maxHeartbeats 8000000

mutual
def spec_Trim.j1 : Nat → ByteArray → Option (ByteArray)
 | 0, _ => none
 | k + 1, x0 => spec_Trim.l1 k x0
def spec_Trim.l1 : Nat → ByteArray → Option (ByteArray)
 | 0, _ => none
 | k + 1, x0 => if (x0.size : Int) > 0 then (if 0 ≤ (wrap64 ((x0.size : Int) - 1)) then (if (wrap64 ((x0.size : Int) - 1)) < (x0.size : Int) then ((spec_l1Blank.f (bt x0 (wrap64 ((x0.size : Int) - 1)))).bind fun t121 => (if t121 = true then (if (wrap64 ((x0.size : Int) - 1)) ≤ (x0.size : Int) then (spec_Trim.l1 k (x0.extract 0 ((wrap64 ((x0.size : Int) - 1)) : Int).toNat)) else (none)) else (some x0))) else (none)) else (none)) else (some x0)
def spec_Trim.l0 : Nat → ByteArray → Option (ByteArray)
 | 0, _ => none
 | k + 1, x0 => if (x0.size : Int) > 0 then (if 0 < (x0.size : Int) then ((spec_l1Blank.f (bt x0 0)).bind fun t120 => (if t120 = true then (if 1 ≤ (x0.size : Int) then (spec_Trim.l0 k (x0.extract 1 x0.size)) else (none)) else (spec_Trim.j1 k x0))) else (none)) else (spec_Trim.j1 k x0)
end
def spec_Trim.f (k : Nat) (a0 : ByteArray) : Option (ByteArray) := spec_Trim.l0 k a0

theorem spec_Trim.calls (k : Nat) (a0 : ByteArray) (r : ByteArray) (w : World) (h : spec_Trim.f k a0 = some r) :
  Calls Tryz.prog 167 #[.string a0] w fun e w' => e = .returned (.string r) ∧ Drawn0 w w' := by
 have H : (spec_Trim.l0 k a0) = some r := h; clear h; have HC2 := aK H; clear H; go_enter Tryz.func167, Tryz.ntmps167
 go_upto_block 0 with (fail)
 go_cut [0] (fun v0 wc => ∃ (kq : Nat) (x0_1 : ByteArray), v0 = .string x0_1 ∧ Aside0 (spec_Trim.j1 kq x0_1 = some r) ∧ Aside0 (kq ≤ k) ∧ Drawn0 w wc)
 case first =>
  have H := HC2.1; clear HC2; have H' := aK H; clear H; go_wp2
  go_loopg [0] k (fun kq v0 w' => ∃ (x0_1 : ByteArray), v0 = .string x0_1 ∧ Aside0 (spec_Trim.l0 kq x0_1 = some r) ∧ Aside0 (kq ≤ k) ∧ Drawn0 w w')
  case atStart => exact ⟨(a0), q4_, H', ⟨Nat.le_refl _⟩, q17_⟩
  case round =>
   clear H'; (try clear c1); (try clear p2); obtain ⟨x0_1, rfl, HA, HK1, ⟨m1, rfl⟩⟩ := hrel; cases gk with
   | zero => exact absurd HA.1 (by simp [spec_Trim.l0])
   | succ k1 =>
    have H := HA.1; clear HA; simp only [spec_Trim.l0] at H; by_cases c3 : (x0_1.size : Int) > 0
    ·rw [if_pos c3] at H; have c3b0 : decide (0 < (x0_1.size : Int)) = true := decide_eq_true c3; have c3b1 : decide (0 < x0_1.size) = true := decide_eq_true (by omega); clear c3; (first | rw [c3b0] | (simp only [i64_w, i32_w]; rw [c3b0]) | skip); by_cases c4 : 0 < (x0_1.size : Int)
     ·rw [if_pos c4] at H; have c4b0 : decide (0 < (x0_1.size : Int)) = true := decide_eq_true c4; have c4b1 : decide (0 < x0_1.size) = true := decide_eq_true (by omega); clear c4; replace H := Option.bind_eq_some_iff.mp H; obtain ⟨t120, A60, H⟩ := H; (try dsimp only at H); have A6 := aK A60; clear A60; by_cases c7 : t120 = true
      ·subst c7; rw [if_pos rfl] at H; by_cases c8 : 1 ≤ (x0_1.size : Int)
       ·rw [if_pos c8] at H; have c8b0 := eq_true c8; have c8b1 : decide (1 ≤ (x0_1.size : Int)) = true := decide_eq_true c8; clear c8; have H' := aK H; clear H; have p5 : 0 ≤ (0 : Int) := (by omega); have q5 : 0 < x0_1.size := (by have : (0 : Int) < (x0_1.size : Int) := of_decide_eq_true q3_; omega); have hx5 : ∀ h : 0 < x0_1.size, ((x0_1[0]'h).toNat : Int) = bt x0_1 0 := bt_at x0_1 0; clear p5; have qi5 : (0 < (x0_1.size : Int)) = True := eq_true (of_decide_eq_true q3_); replace q5 := eq_true q5; go_wp2_with (first | (go_at_call 191; (with_reducible refine (spec_l1Blank.calls (bt x0_1 0) true _ A6.1).mono ?_); rintro e w' ⟨rfl, ⟨nd, rfl⟩⟩))
        go_roundg k1
        case measure => have := HK1.1; omega
        case rel => exact ⟨(x0_1.extract 1 x0_1.size), q4_, H', ⟨q144_⟩, q17_⟩
       ·rw [if_neg c8] at H; exact absurd H (by simp)
      ·replace c7 := Bool.eq_false_iff.mpr c7; subst c7; rw [if_neg (show ¬ (false = true) by decide)] at H; have H' := aK H; clear H; have p5 : 0 ≤ (0 : Int) := (by omega); have q5 : 0 < x0_1.size := (by have : (0 : Int) < (x0_1.size : Int) := of_decide_eq_true q3_; omega); have hx5 : ∀ h : 0 < x0_1.size, ((x0_1[0]'h).toNat : Int) = bt x0_1 0 := bt_at x0_1 0; clear p5; have qi5 : (0 < (x0_1.size : Int)) = True := eq_true (of_decide_eq_true q3_); replace q5 := eq_true q5; go_wp2_with (first | (go_at_call 191; (with_reducible refine (spec_l1Blank.calls (bt x0_1 0) false _ A6.1).mono ?_); rintro e w' ⟨rfl, ⟨nd, rfl⟩⟩))
       go_meet
       case rel => exact ⟨_, (x0_1), q4_, H', ⟨q227_⟩, q17_⟩
     ·rw [if_neg c4] at H; exact absurd H (by simp)
    ·rw [if_neg c3] at H; have c3b0 : decide (0 < (x0_1.size : Int)) = false := decide_eq_false c3; have c3b1 : decide (0 < x0_1.size) = false := decide_eq_false (by omega); clear c3; (first | rw [c3b0] | (simp only [i64_w, i32_w]; rw [c3b0]) | skip); have H' := aK H; clear H; go_wp2
     go_meet
     case rel => exact ⟨_, (x0_1), q4_, H', ⟨q227_⟩, q17_⟩
 case rest =>
  clear HC2; (try clear c1); (try clear p2); (try clear c3); (try clear c3b0); (try clear c3b1); (try clear c4); (try clear c4b0); (try clear c4b1); (try clear p5); (try clear q5); (try clear hx5); (try clear qi5); (try clear c7); (try clear c8); (try clear c8b0); (try clear c8b1); (try clear p2); (try clear p5); (try clear q5); obtain ⟨kq, x0_1, rfl, HA, HJ1, ⟨mc1, rfl⟩⟩ := hcut; cases kq with
  | zero => exact absurd HA.1 (by simp [spec_Trim.j1])
  | succ kj1 =>
   have H := HA.1; clear HA; simp only [spec_Trim.j1] at H; have H' := aK H; clear H; go_wp2
   go_loopg [0] kj1 (fun kq v0 w' => ∃ (x0_2 : ByteArray), v0 = .string x0_2 ∧ Aside0 (spec_Trim.l1 kq x0_2 = some r) ∧ Aside0 (kq ≤ kj1) ∧ Drawn0 w w')
   case atStart => exact ⟨(x0_1), q4_, H', ⟨Nat.le_refl _⟩, q17_⟩
   case round =>
    clear H'; (try clear c1); (try clear p2); (try clear c3); (try clear c3b0); (try clear c3b1); (try clear c4); (try clear c4b0); (try clear c4b1); (try clear p5); (try clear q5); (try clear hx5); (try clear qi5); (try clear c7); (try clear c8); (try clear c8b0); (try clear c8b1); (try clear p2); (try clear p5); (try clear q5); obtain ⟨x0_2, rfl, HA, HK2, ⟨m2, rfl⟩⟩ := hrel; cases gk with
    | zero => exact absurd HA.1 (by simp [spec_Trim.l1])
    | succ k2 =>
     have H := HA.1; clear HA; simp only [spec_Trim.l1] at H; by_cases c9 : (x0_2.size : Int) > 0
     ·rw [if_pos c9] at H; have c9b0 : decide (0 < (x0_2.size : Int)) = true := decide_eq_true c9; have c9b1 : decide (0 < x0_2.size) = true := decide_eq_true (by omega); clear c9; obtain ⟨ji10, hji10⟩ : ∃ j_ : Int, (wrap64 ((x0_2.size : Int) - 1)) = j_ := ⟨_, rfl⟩; replace H : (if 0 ≤ (ji10) then (if (ji10) < (x0_2.size : Int) then ((spec_l1Blank.f (bt x0_2 (ji10))).bind fun t121 => (if t121 = true then (if (ji10) ≤ (x0_2.size : Int) then (spec_Trim.l1 k2 (x0_2.extract 0 ((ji10) : Int).toNat)) else (none)) else (some x0_2))) else (none)) else (none)) = some r := by first | (rw [hji10] at H; exact H) | (simp only [hji10] at H ⊢; exact H)
      have hji10w : (IntKind.i64.wrap ((x0_2.size : Int) - 1)) = ji10 := (i64_w _).trans hji10; by_cases c11 : 0 ≤ (ji10)
      ·rw [if_pos c11] at H; have c11b0 : decide (0 ≤ (ji10)) = true := decide_eq_true c11; clear c11; by_cases c12 : (ji10) < (x0_2.size : Int)
       ·rw [if_pos c12] at H; have c12b0 : decide ((ji10) < (x0_2.size : Int)) = true := decide_eq_true c12; clear c12; replace H := Option.bind_eq_some_iff.mp H; obtain ⟨t121, A140, H⟩ := H; (try dsimp only at H); have A14 := aK A140; clear A140; by_cases c15 : t121 = true
        ·subst c15; rw [if_pos rfl] at H; have c16b0 := eq_true (of_decide_eq_true q3_ : 0 ≤ (ji10)); by_cases c17 : (ji10) ≤ (x0_2.size : Int)
         ·rw [if_pos c17] at H; have c17b0 := eq_true c17; have c17b1 : decide ((ji10) ≤ (x0_2.size : Int)) = true := decide_eq_true c17; clear c17; have H' := aK H; clear H; have p13 : 0 ≤ ((ji10) : Int) := of_decide_eq_true q3_; have q13 : (ji10) < (x0_2.size : Int) := of_decide_eq_true q3_; have hx13 := bt_at x0_2 (ji10); replace p13 := eq_true p13; replace q13 := eq_true q13; go_wp2_with (first | (go_at_call 191; (with_reducible refine (spec_l1Blank.calls (bt x0_2 (ji10)) true _ A14.1).mono ?_); rintro e w' ⟨rfl, ⟨nd, rfl⟩⟩))
          go_roundg k2
          case measure => have := HJ1.1; have := HK2.1; omega
          case rel => exact ⟨(x0_2.extract 0 ((ji10) : Int).toNat), q240_, H', ⟨by have := HJ1.1; have := HK2.1; omega⟩, q17_⟩
         ·rw [if_neg c17] at H; exact absurd H (by simp)
        ·replace c15 := Bool.eq_false_iff.mpr c15; subst c15; rw [if_neg (show ¬ (false = true) by decide)] at H; obtain rfl := Option.some.inj H; have p13 : 0 ≤ ((ji10) : Int) := of_decide_eq_true q3_; have q13 : (ji10) < (x0_2.size : Int) := of_decide_eq_true q3_; have hx13 := bt_at x0_2 (ji10); replace p13 := eq_true p13; replace q13 := eq_true q13; go_wp2_with (first | (go_at_call 191; (with_reducible refine (spec_l1Blank.calls (bt x0_2 (ji10)) false _ A14.1).mono ?_); rintro e w' ⟨rfl, ⟨nd, rfl⟩⟩))
         go_ret
         exact ⟨q240_, q17_⟩
       ·rw [if_neg c12] at H; exact absurd H (by simp)
      ·rw [if_neg c11] at H; exact absurd H (by simp)
     ·rw [if_neg c9] at H; have c9b0 : decide (0 < (x0_2.size : Int)) = false := decide_eq_false c9; have c9b1 : decide (0 < x0_2.size) = false := decide_eq_false (by omega); clear c9; obtain rfl := Option.some.inj H; go_wp2
      go_ret
      exact ⟨q4_, q17_⟩

def spec_l3Val.f (k : Nat) (a0 : ByteArray) : Option (Bool) := if (a0.size : Int) ≤ 60 then ((spec_Plain.f k a0).bind fun t122 => (if t122 = true then ((spec_Trim.f k a0).bind fun t123 => (some (t123.toList == a0.toList))) else (some false))) else (some false)

theorem spec_l3Val.calls (k : Nat) (a0 : ByteArray) (r : Bool) (w : World) (h : spec_l3Val.f k a0 = some r) :
  Calls Tryz.prog 141 #[.string a0] w fun e w' => e = .returned (.bool r) ∧ Drawn0 w w' := by
 have H : (if (a0.size : Int) ≤ 60 then ((spec_Plain.f k a0).bind fun t122 => (if t122 = true then ((spec_Trim.f k a0).bind fun t123 => (some (t123.toList == a0.toList))) else (some false))) else (some false)) = some r := h; clear h; by_cases c2 : (a0.size : Int) ≤ 60
 ·rw [if_pos c2] at H; have c2b0 : decide ((a0.size : Int) ≤ 60) = true := decide_eq_true c2; have c2b1 : decide (a0.size ≤ 60) = true := decide_eq_true (by omega); clear c2; replace H := Option.bind_eq_some_iff.mp H; obtain ⟨t122, A30, H⟩ := H; (try dsimp only at H); have A3 := aK A30; clear A30; by_cases c4 : t122 = true
  ·subst c4; rw [if_pos rfl] at H; replace H := Option.bind_eq_some_iff.mp H; obtain ⟨t123, A50, H⟩ := H; (try dsimp only at H); have A5 := aK A50; clear A50; obtain rfl := Option.some.inj H; go_enter Tryz.func141, Tryz.ntmps141
   go_wp2_with (first | (go_at_call 166; (with_reducible refine (spec_Plain.calls k a0 true _ A3.1).mono ?_); rintro e w' ⟨rfl, ⟨nd, rfl⟩⟩) | (go_at_call 167; (with_reducible refine (spec_Trim.calls k a0 t123 _ A5.1).mono ?_); rintro e w' ⟨rfl, ⟨nd, rfl⟩⟩))
   go_ret
   exact ⟨q4_, q17_⟩
  ·replace c4 := Bool.eq_false_iff.mpr c4; subst c4; rw [if_neg (show ¬ (false = true) by decide)] at H; obtain rfl := Option.some.inj H; go_enter Tryz.func141, Tryz.ntmps141
   go_wp2_with (first | (go_at_call 166; (with_reducible refine (spec_Plain.calls k a0 false _ A3.1).mono ?_); rintro e w' ⟨rfl, ⟨nd, rfl⟩⟩))
   go_ret
   exact ⟨q4_, q17_⟩
 ·rw [if_neg c2] at H; have c2b0 : decide ((a0.size : Int) ≤ 60) = false := decide_eq_false c2; have c2b1 : decide (a0.size ≤ 60) = false := decide_eq_false (by omega); clear c2; obtain rfl := Option.some.inj H; go_enter Tryz.func141, Tryz.ntmps141
  go_wp2
  go_ret
  exact ⟨q4_, q17_⟩

def spec_l3Heads.l0 : Nat → List (S88) → Int → Option (Bool)
 | 0, _, _ => none
 | k + 1, x0, x3 => if x3 < (x0.length : Int) then (if 0 ≤ x3 then ((spec_SmallName.f k ((rd_T88 x0 x3).f0)).bind fun t125 => (if t125 = true then ((spec_l3Val.f k ((rd_T88 x0 x3).f1)).bind fun t127 => (if t127 = true then (if ((rd_T88 x0 x3).f0).toList = ([99, 111, 110, 116, 101, 110, 116, 45, 108, 101, 110, 103, 116, 104] : List UInt8) then (some false) else (if ((rd_T88 x0 x3).f0).toList = ([116, 114, 97, 110, 115, 102, 101, 114, 45, 101, 110, 99, 111, 100, 105, 110, 103] : List UInt8) then (some false) else (spec_l3Heads.l0 k x0 (wrap64 (x3 + 1))))) else (some false))) else (some false))) else (none)) else (some (decide ((x0.length : Int) ≤ 8)))
def spec_l3Heads.f (k : Nat) (l0 : List (S88)) : Option (Bool) := spec_l3Heads.l0 k l0 0

theorem spec_l3Heads.calls (k : Nat) (A0 : Option Addr) (c0 : Nat) (l0 : List (S88)) (r : Bool) (w : World) (hr0 : Kd.C k88 w A0 l0.length l0) (hc0 : l0.length ≤ c0) (h : spec_l3Heads.f k l0 = some r) :
  Calls Tryz.prog 98 #[.slice A0 l0.length c0] w fun e w' => e = .returned (.bool r) ∧ Drawn0 w w' := by
 have HR0 := aK hr0; have HC0 := aK hc0; clear hr0 hc0; have H : (spec_l3Heads.l0 k l0 0) = some r := h; clear h; have H' := aK H; clear H; go_enter Tryz.func98, Tryz.ntmps98
 go_wp2
 go_loopg [3] k (fun kq v3 w' => ∃ (x3_1 : Int), v3 = .int .i64 x3_1 ∧ Aside0 (spec_l3Heads.l0 kq l0 x3_1 = some r) ∧ Aside0 (kq ≤ k) ∧ Drawn0 w w')
 case atStart => exact ⟨(0), q4_, H', ⟨Nat.le_refl _⟩, q17_⟩
 case round =>
  clear H'; obtain ⟨x3_1, rfl, HA, HK1, ⟨m1, rfl⟩⟩ := hrel; cases gk with
  | zero => exact absurd HA.1 (by simp [spec_l3Heads.l0])
  | succ k1 =>
   have H := HA.1; clear HA; simp only [spec_l3Heads.l0] at H; by_cases c2 : x3_1 < (l0.length : Int)
   ·rw [if_pos c2] at H; have c2b0 : decide (x3_1 < (l0.length : Int)) = true := decide_eq_true c2; clear c2; by_cases c3 : 0 ≤ x3_1
    ·rw [if_pos c3] at H; have c3b0 : decide (0 ≤ x3_1) = true := decide_eq_true c3; clear c3; replace H := Option.bind_eq_some_iff.mp H; obtain ⟨t125, A40, H⟩ := H; (try dsimp only at H); have A4 := aK A40; clear A40; by_cases c5 : t125 = true
     ·subst c5; rw [if_pos rfl] at H; replace H := Option.bind_eq_some_iff.mp H; obtain ⟨t127, A60, H⟩ := H; (try dsimp only at H); have A6 := aK A60; clear A60; by_cases c7 : t127 = true
      ·subst c7; rw [if_pos rfl] at H; by_cases c8 : ((rd_T88 l0 x3_1).f0).toList = ([99, 111, 110, 116, 101, 110, 116, 45, 108, 101, 110, 103, 116, 104] : List UInt8)
       ·rw [if_pos c8] at H; have c8b0 : (((rd_T88 l0 x3_1).f0).toList == ([99, 111, 110, 116, 101, 110, 116, 45, 108, 101, 110, 103, 116, 104] : List UInt8)) = true := beq_iff_eq.mpr c8; have c8b1 : (((rd_T88 l0 x3_1).f0).toList != ([99, 111, 110, 116, 101, 110, 116, 45, 108, 101, 110, 103, 116, 104] : List UInt8)) = false := bne_eq_false_iff_eq.mpr c8; clear c8; obtain rfl := Option.some.inj H; have p124 : 0 ≤ (x3_1 : Int) := of_decide_eq_true q3_; have q124 : x3_1 < (l0.length : Int) := of_decide_eq_true q3_; obtain ⟨ad124, e124, hx124_0, hx124_1⟩ := at_T88 HR0.1 x3_1 p124 q124; cases e124
        replace p124 := eq_true p124; replace q124 := eq_true q124; go_wp2_with (first | ((with_reducible refine gate_callee (f := 140) rfl ?_); refine goesL_ (some 15) rfl rfl Tryz.func140 (by kernel_rfl) rfl #[.string ((rd_T88 l0 x3_1).f0)] rfl q1_ ?_; (with_reducible refine (spec_SmallName.calls k1 ((rd_T88 l0 x3_1).f0) true _ A4.1).mono ?_); rintro e w' ⟨rfl, ⟨nd, rfl⟩⟩; refine ⟨_, rfl, ?_⟩; have p126 : 0 ≤ (x3_1 : Int) := of_decide_eq_true q3_; have q126 : x3_1 < (l0.length : Int) := of_decide_eq_true q3_; obtain ⟨ad126, e126, hx126_0, hx126_1⟩ := at_T88 HR0.1 x3_1 p126 q126; obtain rfl : ad124 = ad126 := (by injection e126); replace p126 := eq_true p126; replace q126 := eq_true q126) | (go_at_call 141; (with_reducible refine (spec_l3Val.calls k1 ((rd_T88 l0 x3_1).f1) true _ A6.1).mono ?_); rintro e w' ⟨rfl, ⟨nd, rfl⟩⟩; have p128 : 0 ≤ (x3_1 : Int) := of_decide_eq_true q3_; have q128 : x3_1 < (l0.length : Int) := of_decide_eq_true q3_; obtain ⟨ad128, e128, hx128_0, hx128_1⟩ := at_T88 HR0.1 x3_1 p128 q128; obtain rfl : ad124 = ad128 := (by injection e128); replace p128 := eq_true p128; replace q128 := eq_true q128))
        go_ret
        exact ⟨q4_, q17_⟩
       ·rw [if_neg c8] at H; have c8b0 : (((rd_T88 l0 x3_1).f0).toList == ([99, 111, 110, 116, 101, 110, 116, 45, 108, 101, 110, 103, 116, 104] : List UInt8)) = false := beq_eq_false_iff_ne.mpr c8; have c8b1 : (((rd_T88 l0 x3_1).f0).toList != ([99, 111, 110, 116, 101, 110, 116, 45, 108, 101, 110, 103, 116, 104] : List UInt8)) = true := bne_iff_ne.mpr c8; by_cases c9 : ((rd_T88 l0 x3_1).f0).toList = ([116, 114, 97, 110, 115, 102, 101, 114, 45, 101, 110, 99, 111, 100, 105, 110, 103] : List UInt8)
        ·rw [if_pos c9] at H; have c9b0 : (((rd_T88 l0 x3_1).f0).toList == ([116, 114, 97, 110, 115, 102, 101, 114, 45, 101, 110, 99, 111, 100, 105, 110, 103] : List UInt8)) = true := beq_iff_eq.mpr c9; have c9b1 : (((rd_T88 l0 x3_1).f0).toList != ([116, 114, 97, 110, 115, 102, 101, 114, 45, 101, 110, 99, 111, 100, 105, 110, 103] : List UInt8)) = false := bne_eq_false_iff_eq.mpr c9; clear c9; obtain rfl := Option.some.inj H; have p124 : 0 ≤ (x3_1 : Int) := of_decide_eq_true q3_; have q124 : x3_1 < (l0.length : Int) := of_decide_eq_true q3_; obtain ⟨ad124, e124, hx124_0, hx124_1⟩ := at_T88 HR0.1 x3_1 p124 q124; cases e124
         replace p124 := eq_true p124; replace q124 := eq_true q124; go_wp2_with (first | ((with_reducible refine gate_callee (f := 140) rfl ?_); refine goesL_ (some 15) rfl rfl Tryz.func140 (by kernel_rfl) rfl #[.string ((rd_T88 l0 x3_1).f0)] rfl q1_ ?_; (with_reducible refine (spec_SmallName.calls k1 ((rd_T88 l0 x3_1).f0) true _ A4.1).mono ?_); rintro e w' ⟨rfl, ⟨nd, rfl⟩⟩; refine ⟨_, rfl, ?_⟩; have p126 : 0 ≤ (x3_1 : Int) := of_decide_eq_true q3_; have q126 : x3_1 < (l0.length : Int) := of_decide_eq_true q3_; obtain ⟨ad126, e126, hx126_0, hx126_1⟩ := at_T88 HR0.1 x3_1 p126 q126; obtain rfl : ad124 = ad126 := (by injection e126); replace p126 := eq_true p126; replace q126 := eq_true q126) | (go_at_call 141; (with_reducible refine (spec_l3Val.calls k1 ((rd_T88 l0 x3_1).f1) true _ A6.1).mono ?_); rintro e w' ⟨rfl, ⟨nd, rfl⟩⟩; have p128 : 0 ≤ (x3_1 : Int) := of_decide_eq_true q3_; have q128 : x3_1 < (l0.length : Int) := of_decide_eq_true q3_; obtain ⟨ad128, e128, hx128_0, hx128_1⟩ := at_T88 HR0.1 x3_1 p128 q128; obtain rfl : ad124 = ad128 := (by injection e128); replace p128 := eq_true p128; replace q128 := eq_true q128; have p129 : 0 ≤ (x3_1 : Int) := of_decide_eq_true q3_; have q129 : x3_1 < (l0.length : Int) := of_decide_eq_true q3_; obtain ⟨ad129, e129, hx129_0, hx129_1⟩ := at_T88 HR0.1 x3_1 p129 q129; obtain rfl : ad124 = ad129 := (by injection e129); replace p129 := eq_true p129; replace q129 := eq_true q129))
         go_ret
         exact ⟨q4_, q17_⟩
        ·rw [if_neg c9] at H; have c9b0 : (((rd_T88 l0 x3_1).f0).toList == ([116, 114, 97, 110, 115, 102, 101, 114, 45, 101, 110, 99, 111, 100, 105, 110, 103] : List UInt8)) = false := beq_eq_false_iff_ne.mpr c9; have c9b1 : (((rd_T88 l0 x3_1).f0).toList != ([116, 114, 97, 110, 115, 102, 101, 114, 45, 101, 110, 99, 111, 100, 105, 110, 103] : List UInt8)) = true := bne_iff_ne.mpr c9; have H' := aK H; clear H; have p124 : 0 ≤ (x3_1 : Int) := of_decide_eq_true q3_; have q124 : x3_1 < (l0.length : Int) := of_decide_eq_true q3_; obtain ⟨ad124, e124, hx124_0, hx124_1⟩ := at_T88 HR0.1 x3_1 p124 q124; cases e124
         replace p124 := eq_true p124; replace q124 := eq_true q124; go_wp2_with (first | ((with_reducible refine gate_callee (f := 140) rfl ?_); refine goesL_ (some 15) rfl rfl Tryz.func140 (by kernel_rfl) rfl #[.string ((rd_T88 l0 x3_1).f0)] rfl q1_ ?_; (with_reducible refine (spec_SmallName.calls k1 ((rd_T88 l0 x3_1).f0) true _ A4.1).mono ?_); rintro e w' ⟨rfl, ⟨nd, rfl⟩⟩; refine ⟨_, rfl, ?_⟩; have p126 : 0 ≤ (x3_1 : Int) := of_decide_eq_true q3_; have q126 : x3_1 < (l0.length : Int) := of_decide_eq_true q3_; obtain ⟨ad126, e126, hx126_0, hx126_1⟩ := at_T88 HR0.1 x3_1 p126 q126; obtain rfl : ad124 = ad126 := (by injection e126); replace p126 := eq_true p126; replace q126 := eq_true q126) | (go_at_call 141; (with_reducible refine (spec_l3Val.calls k1 ((rd_T88 l0 x3_1).f1) true _ A6.1).mono ?_); rintro e w' ⟨rfl, ⟨nd, rfl⟩⟩; have p128 : 0 ≤ (x3_1 : Int) := of_decide_eq_true q3_; have q128 : x3_1 < (l0.length : Int) := of_decide_eq_true q3_; obtain ⟨ad128, e128, hx128_0, hx128_1⟩ := at_T88 HR0.1 x3_1 p128 q128; obtain rfl : ad124 = ad128 := (by injection e128); replace p128 := eq_true p128; replace q128 := eq_true q128; have p129 : 0 ≤ (x3_1 : Int) := of_decide_eq_true q3_; have q129 : x3_1 < (l0.length : Int) := of_decide_eq_true q3_; obtain ⟨ad129, e129, hx129_0, hx129_1⟩ := at_T88 HR0.1 x3_1 p129 q129; obtain rfl : ad124 = ad129 := (by injection e129); replace p129 := eq_true p129; replace q129 := eq_true q129))
         go_roundg k1
         case measure => have := HK1.1; omega
         case rel => exact ⟨(wrap64 (x3_1 + 1)), q4_, H', ⟨q144_⟩, q17_⟩
      ·replace c7 := Bool.eq_false_iff.mpr c7; subst c7; rw [if_neg (show ¬ (false = true) by decide)] at H; obtain rfl := Option.some.inj H; have p124 : 0 ≤ (x3_1 : Int) := of_decide_eq_true q3_; have q124 : x3_1 < (l0.length : Int) := of_decide_eq_true q3_; obtain ⟨ad124, e124, hx124_0, hx124_1⟩ := at_T88 HR0.1 x3_1 p124 q124; cases e124
       replace p124 := eq_true p124; replace q124 := eq_true q124; go_wp2_with (first | ((with_reducible refine gate_callee (f := 140) rfl ?_); refine goesL_ (some 15) rfl rfl Tryz.func140 (by kernel_rfl) rfl #[.string ((rd_T88 l0 x3_1).f0)] rfl q1_ ?_; (with_reducible refine (spec_SmallName.calls k1 ((rd_T88 l0 x3_1).f0) true _ A4.1).mono ?_); rintro e w' ⟨rfl, ⟨nd, rfl⟩⟩; refine ⟨_, rfl, ?_⟩; have p126 : 0 ≤ (x3_1 : Int) := of_decide_eq_true q3_; have q126 : x3_1 < (l0.length : Int) := of_decide_eq_true q3_; obtain ⟨ad126, e126, hx126_0, hx126_1⟩ := at_T88 HR0.1 x3_1 p126 q126; obtain rfl : ad124 = ad126 := (by injection e126); replace p126 := eq_true p126; replace q126 := eq_true q126) | (go_at_call 141; (with_reducible refine (spec_l3Val.calls k1 ((rd_T88 l0 x3_1).f1) false _ A6.1).mono ?_); rintro e w' ⟨rfl, ⟨nd, rfl⟩⟩))
       go_ret
       exact ⟨q4_, q17_⟩
     ·replace c5 := Bool.eq_false_iff.mpr c5; subst c5; rw [if_neg (show ¬ (false = true) by decide)] at H; obtain rfl := Option.some.inj H; have p124 : 0 ≤ (x3_1 : Int) := of_decide_eq_true q3_; have q124 : x3_1 < (l0.length : Int) := of_decide_eq_true q3_; obtain ⟨ad124, e124, hx124_0, hx124_1⟩ := at_T88 HR0.1 x3_1 p124 q124; cases e124
      replace p124 := eq_true p124; replace q124 := eq_true q124; go_wp2_with (first | ((with_reducible refine gate_callee (f := 140) rfl ?_); refine goesL_ (some 15) rfl rfl Tryz.func140 (by kernel_rfl) rfl #[.string ((rd_T88 l0 x3_1).f0)] rfl q1_ ?_; (with_reducible refine (spec_SmallName.calls k1 ((rd_T88 l0 x3_1).f0) false _ A4.1).mono ?_); rintro e w' ⟨rfl, ⟨nd, rfl⟩⟩; refine ⟨_, rfl, ?_⟩))
      go_ret
      exact ⟨q4_, q17_⟩
    ·rw [if_neg c3] at H; exact absurd H (by simp)
   ·rw [if_neg c2] at H; have c2b0 : decide (x3_1 < (l0.length : Int)) = false := decide_eq_false c2; clear c2; obtain rfl := Option.some.inj H; go_wp2
    go_ret
    exact ⟨q4_, q17_⟩

def spec_RespOk.f (k : Nat) (a0_0 : Int) (l0_1 : List (S88)) (a0_2 : ByteArray) : Option (Bool) := (spec_l1In.f a0_0 100 599).bind fun t131 => (if t131 = true then ((spec_l3Heads.f k l0_1).bind fun t132 => (if t132 = true then (some (decide ((a0_2.size : Int) ≤ 400))) else (some false))) else (some false))

theorem spec_RespOk.calls (k : Nat) (a0_0 : Int) (A0_1 : Option Addr) (c0_1 : Nat) (l0_1 : List (S88)) (a0_2 : ByteArray) (r : Bool) (w : World) (hr0_1 : Kd.C k88 w A0_1 l0_1.length l0_1) (hc0_1 : l0_1.length ≤ c0_1) (h : spec_RespOk.f k a0_0 l0_1 a0_2 = some r) :
  Calls Tryz.prog 28 #[.agg #[.int .i64 a0_0, .slice A0_1 l0_1.length c0_1, .string a0_2]] w fun e w' => e = .returned (.bool r) ∧ Below w.heap.size w w' := by
 have hu25 := Tryz.underlying25; have HR0_1 := aK hr0_1; have HC0_1 := aK hc0_1; clear hr0_1 hc0_1; have HB := aK (Below.refl w.heap.size w); have H : ((spec_l1In.f a0_0 100 599).bind fun t131 => (if t131 = true then ((spec_l3Heads.f k l0_1).bind fun t132 => (if t132 = true then (some (decide ((a0_2.size : Int) ≤ 400))) else (some false))) else (some false))) = some r := h; clear h; replace H := Option.bind_eq_some_iff.mp H; obtain ⟨t131, A20, H⟩ := H; (try dsimp only at H); have A2 := aK A20; clear A20; by_cases c3 : t131 = true
 ·subst c3; rw [if_pos rfl] at H; replace H := Option.bind_eq_some_iff.mp H; obtain ⟨t132, A40, H⟩ := H; (try dsimp only at H); have A4 := aK A40; clear A40; by_cases c5 : t132 = true
  ·subst c5; rw [if_pos rfl] at H; obtain rfl := Option.some.inj H; go_enter Tryz.func28, Tryz.ntmps28
   go_wp2_with (first | ((with_reducible refine gate_dst (N := 1) rfl ?_); (try (refine gate_guard (by rfl) ?_; dsimp only)); refine box_event ?hg (N := 1) ?hd (cs := #[.int .i64 a0_0, .slice A0_1 l0_1.length c0_1, .string a0_2]) (t := 25) ?hr ?_; (case hd => rfl); (case hg => rfl); (case hr => exact q26_); intro gb130 hg w6 hbox hb; have n0_ := aK (below_step q2_ hb); have n1_ := aK (hbox); have n2_ := aK ((q44_ : w.heap.size ≤ gb130)); have n3_ := aK ((q44_ : w.heap.size ≤ gb130)); clear HB; have HB := n0_; have BK130 := n1_; have GW130 := n2_; have GE130 := n3_; clear n0_ n1_ n2_ n3_; clear hb hbox hg; have hcz7_0 : w6.cell? ⟨gb130, 0, none⟩ = some (.int .i64 a0_0) := (bc_ BK130.1 0).trans rfl; have hcz7_1 : w6.cell? ⟨gb130, 1, none⟩ = some (.slice A0_1 l0_1.length c0_1) := (bc_ BK130.1 1).trans rfl; have hcz7_2 : w6.cell? ⟨gb130, 2, none⟩ = some (.string a0_2) := (bc_ BK130.1 2).trans rfl; have hfz7_0 := bF_ BK130.1 0; have hfz7_1 := bF_ BK130.1 1; have hfz7_2 := bF_ BK130.1 2) | ((with_reducible refine gate_callee (f := 97) rfl ?_); refine goesL_ (some 5) rfl rfl Tryz.func97 (by kernel_rfl) rfl #[.int .i64 a0_0, .int .i64 100, .int .i64 599] rfl q1_ ?_; (with_reducible refine (spec_l1In.calls a0_0 100 599 true _ A2.1).mono ?_); rintro e w' ⟨rfl, ⟨nd, rfl⟩⟩; refine ⟨_, rfl, ?_⟩) | (go_at_call 98; (with_reducible refine (spec_l3Heads.calls k _ _ l0_1 true _ ?side1 ?side2 A4.1).mono ?_); (case side1 => exact q222_); (case side2 => exact q235_); rintro e w' ⟨rfl, ⟨nd, rfl⟩⟩))
   go_ret
   exact ⟨q15_, q117_⟩
  ·replace c5 := Bool.eq_false_iff.mpr c5; subst c5; rw [if_neg (show ¬ (false = true) by decide)] at H; obtain rfl := Option.some.inj H; go_enter Tryz.func28, Tryz.ntmps28
   go_wp2_with (first | ((with_reducible refine gate_dst (N := 1) rfl ?_); (try (refine gate_guard (by rfl) ?_; dsimp only)); refine box_event ?hg (N := 1) ?hd (cs := #[.int .i64 a0_0, .slice A0_1 l0_1.length c0_1, .string a0_2]) (t := 25) ?hr ?_; (case hd => rfl); (case hg => rfl); (case hr => exact q26_); intro gb130 hg w8 hbox hb; have n0_ := aK (below_step q2_ hb); have n1_ := aK (hbox); have n2_ := aK ((q44_ : w.heap.size ≤ gb130)); have n3_ := aK ((q44_ : w.heap.size ≤ gb130)); clear HB; have HB := n0_; have BK130 := n1_; have GW130 := n2_; have GE130 := n3_; clear n0_ n1_ n2_ n3_; clear hb hbox hg; have hcz9_0 : w8.cell? ⟨gb130, 0, none⟩ = some (.int .i64 a0_0) := (bc_ BK130.1 0).trans rfl; have hcz9_1 : w8.cell? ⟨gb130, 1, none⟩ = some (.slice A0_1 l0_1.length c0_1) := (bc_ BK130.1 1).trans rfl; have hcz9_2 : w8.cell? ⟨gb130, 2, none⟩ = some (.string a0_2) := (bc_ BK130.1 2).trans rfl; have hfz9_0 := bF_ BK130.1 0; have hfz9_1 := bF_ BK130.1 1; have hfz9_2 := bF_ BK130.1 2) | ((with_reducible refine gate_callee (f := 97) rfl ?_); refine goesL_ (some 5) rfl rfl Tryz.func97 (by kernel_rfl) rfl #[.int .i64 a0_0, .int .i64 100, .int .i64 599] rfl q1_ ?_; (with_reducible refine (spec_l1In.calls a0_0 100 599 true _ A2.1).mono ?_); rintro e w' ⟨rfl, ⟨nd, rfl⟩⟩; refine ⟨_, rfl, ?_⟩) | (go_at_call 98; (with_reducible refine (spec_l3Heads.calls k _ _ l0_1 false _ ?side1 ?side2 A4.1).mono ?_); (case side1 => exact q222_); (case side2 => exact q235_); rintro e w' ⟨rfl, ⟨nd, rfl⟩⟩))
   go_ret
   exact ⟨q15_, q117_⟩
 ·replace c3 := Bool.eq_false_iff.mpr c3; subst c3; rw [if_neg (show ¬ (false = true) by decide)] at H; obtain rfl := Option.some.inj H; go_enter Tryz.func28, Tryz.ntmps28
  go_wp2_with (first | ((with_reducible refine gate_dst (N := 1) rfl ?_); (try (refine gate_guard (by rfl) ?_; dsimp only)); refine box_event ?hg (N := 1) ?hd (cs := #[.int .i64 a0_0, .slice A0_1 l0_1.length c0_1, .string a0_2]) (t := 25) ?hr ?_; (case hd => rfl); (case hg => rfl); (case hr => exact q26_); intro gb130 hg w10 hbox hb; have n0_ := aK (below_step q2_ hb); have n1_ := aK (hbox); have n2_ := aK ((q44_ : w.heap.size ≤ gb130)); have n3_ := aK ((q44_ : w.heap.size ≤ gb130)); clear HB; have HB := n0_; have BK130 := n1_; have GW130 := n2_; have GE130 := n3_; clear n0_ n1_ n2_ n3_; clear hb hbox hg; have hcz11_0 : w10.cell? ⟨gb130, 0, none⟩ = some (.int .i64 a0_0) := (bc_ BK130.1 0).trans rfl; have hcz11_1 : w10.cell? ⟨gb130, 1, none⟩ = some (.slice A0_1 l0_1.length c0_1) := (bc_ BK130.1 1).trans rfl; have hcz11_2 : w10.cell? ⟨gb130, 2, none⟩ = some (.string a0_2) := (bc_ BK130.1 2).trans rfl; have hfz11_0 := bF_ BK130.1 0; have hfz11_1 := bF_ BK130.1 1; have hfz11_2 := bF_ BK130.1 2) | ((with_reducible refine gate_callee (f := 97) rfl ?_); refine goesL_ (some 5) rfl rfl Tryz.func97 (by kernel_rfl) rfl #[.int .i64 a0_0, .int .i64 100, .int .i64 599] rfl q1_ ?_; (with_reducible refine (spec_l1In.calls a0_0 100 599 false _ A2.1).mono ?_); rintro e w' ⟨rfl, ⟨nd, rfl⟩⟩; refine ⟨_, rfl, ?_⟩))
  go_ret
  exact ⟨q15_, q117_⟩

mutual
def spec_NumText.j0 : Nat → Int → Option (ByteArray)
 | 0, _ => none
 | k + 1, x0 => spec_NumText.l0 k x0 (strOfNums (([(wrap64 (48 + (Int.tmod x0 10))) % 256] : List Int)))
def spec_NumText.l0 : Nat → Int → ByteArray → Option (ByteArray)
 | 0, _, _ => none
 | k + 1, x0, x3 => if x0 > 9 then ((some (([(wrap64 (48 + (Int.tmod (wrap64 (Int.tdiv x0 10)) 10))) % 256] : List Int) : List Int)).bind fun y136 => (if (strOfNums y136).size + x3.size ≤ 9223372036854775807 then (spec_NumText.l0 k (wrap64 (Int.tdiv x0 10)) ((strOfNums y136) ++ x3)) else (none))) else (some x3)
end
def spec_NumText.f (k : Nat) (a0 : Int) : Option (ByteArray) := if a0 < 0 then (spec_NumText.j0 k 0) else (spec_NumText.j0 k a0)

theorem spec_NumText.calls (k : Nat) (a0 : Int) (r : ByteArray) (w : World) (h : spec_NumText.f k a0 = some r) :
  Calls Tryz.prog 114 #[.int .i64 a0] w fun e w' => e = .returned (.string r) ∧ Below w.heap.size w w' := by
 have HB := aK (Below.refl w.heap.size w); have H : (if a0 < 0 then (spec_NumText.j0 k 0) else (spec_NumText.j0 k a0)) = some r := h; clear h; have HC2 := aK H; clear H; go_enter Tryz.func114, Tryz.ntmps114
 go_upto_if 5 with (fail)
 go_cut [0] (fun v0 wc => ∃ (kq : Nat) (x0_1 : Int), v0 = .int .i64 x0_1 ∧ Aside0 (spec_NumText.j0 kq x0_1 = some r) ∧ Aside0 (kq ≤ k) ∧ Aside0 (Below w.heap.size w wc))
 case first =>
  have H := HC2.1; clear HC2; by_cases c3 : a0 < 0
  ·rw [if_pos c3] at H; have c3b0 : decide (a0 < 0) = true := decide_eq_true c3; clear c3; (first | rw [c3b0] | (simp only [i64_w, i32_w]; rw [c3b0]) | skip); have H' := aK H; clear H; go_wp2
   go_meet
   case rel => exact ⟨_, (0), q4_, H', ⟨q185_⟩, ⟨q2_⟩⟩
  ·rw [if_neg c3] at H; have c3b0 : decide (a0 < 0) = false := decide_eq_false c3; clear c3; (first | rw [c3b0] | (simp only [i64_w, i32_w]; rw [c3b0]) | skip); have H' := aK H; clear H; go_wp2
   go_meet
   case rel => exact ⟨_, (a0), q4_, H', ⟨q185_⟩, ⟨q2_⟩⟩
 case rest =>
  clear HC2; (try clear c1); (try clear p2); (try clear c3); (try clear c3b0); obtain ⟨kq, x0_1, rfl, HA, HJ1, HB⟩ := hcut; cases kq with
  | zero => exact absurd HA.1 (by simp [spec_NumText.j0])
  | succ kj1 =>
   have H := HA.1; clear HA; simp only [spec_NumText.j0] at H; obtain ⟨y133, hy133⟩ : ∃ y_ : List Int, y_ = (([(wrap64 (48 + (Int.tmod x0_1 10))) % 256] : List Int)) := ⟨_, rfl⟩; replace H : (spec_NumText.l0 kj1 x0_1 (strOfNums y133)) = some r := by first | (rw [hy133]; with_reducible exact H) | (have H2_ := (Option.bind_some _ _).symm.trans H; rw [hy133]; with_reducible exact H2_) | (have H2_ := (Option.bind_some _ _).symm.trans H; with_reducible exact H2_) | with_reducible exact H | (rw [hy133]; exact H) | exact H
   have Ny133 := aK hy133; clear hy133; have H' := aK H; clear H; go_wp2_with (first | ((with_reducible refine gate_dst (N := 10) rfl ?_); refine Kd.R_lit (Kd.int .u8) _ 5 ?hg (N := 10) ?hd (xs := ([(wrap64 (48 + (Int.tmod x0_1 10))) % 256] : List Int)) (inner := [.int .u8 ((wrap64 (48 + (Int.tmod x0_1 10))) % 256)]) (ok := fun _ => True) (okp := fun _ => True) ?hr ?hp (fun _ hk => hk) trivial (Below.refl _ _) (Nat.le_refl _) (by simp) ?_; (case hd => rfl); (case hg => rfl); (case hr => exact q26_); (case hp => exact (Reps.one (show Kd.M (Kd.int .u8) _ _ _ ((wrap64 (48 + (Int.tmod x0_1 10))) % 256) [.int .u8 ((wrap64 (48 + (Int.tmod x0_1 10))) % 256)] from rfl) (Reps.none _ _))); intro v134 w4 ho5 hb hg_ hnew_; clear hg_ hnew_; (first | rw [← Ny133.1] at ho5 | (simp only [Int.reduceToNat] at ho5; rw [← Ny133.1] at ho5)); have n0_ := aK (Kd.R_lower ho5 (below_size q2_)); have n1_ := aK (below_step q2_ hb); clear HB; have HO135 := n0_; have HB := n1_; clear n0_ n1_; clear hb ho5; have hcv6 := own_string (P := Tryz.prog) Tryz.underlying22 Tryz.underlying5 Tryz.underlying9 (Kd.own_of_R HO135.1)))
   go_loopg [0, 3] kj1 (fun kq v0 v3 w' => ∃ (x0_2 : Int) (x3_2 : ByteArray), v0 = .int .i64 x0_2 ∧ v3 = .string x3_2 ∧ Aside0 (spec_NumText.l0 kq x0_2 x3_2 = some r) ∧ Aside0 (kq ≤ kj1) ∧ Aside0 (Below w.heap.size w w'))
   case atStart => exact ⟨(x0_1), (strOfNums y133), q4_, q4_, H', ⟨Nat.le_refl _⟩, ⟨q2_⟩⟩
   case round =>
    clear H'; (try clear c1); (try clear p2); (try clear c3); (try clear c3b0); (try clear p6); (try clear hcv6); (try clear p2); obtain ⟨x0_2, x3_2, rfl, rfl, HA, HK2, HB⟩ := hrel; cases gk with
    | zero => exact absurd HA.1 (by simp [spec_NumText.l0])
    | succ k2 =>
     have H := HA.1; clear HA; simp only [spec_NumText.l0] at H; by_cases c7 : x0_2 > 9
     ·rw [if_pos c7] at H; have c7b0 : decide (9 < x0_2) = true := decide_eq_true c7; clear c7; obtain ⟨y136, hy136⟩ : ∃ y_ : List Int, y_ = (([(wrap64 (48 + (Int.tmod (wrap64 (Int.tdiv x0_2 10)) 10))) % 256] : List Int)) := ⟨_, rfl⟩; replace H : (if (strOfNums y136).size + x3_2.size ≤ 9223372036854775807 then (spec_NumText.l0 k2 (wrap64 (Int.tdiv x0_2 10)) ((strOfNums y136) ++ x3_2)) else (none)) = some r := by first | (rw [hy136]; with_reducible exact H) | (have H2_ := (Option.bind_some _ _).symm.trans H; rw [hy136]; with_reducible exact H2_) | (have H2_ := (Option.bind_some _ _).symm.trans H; with_reducible exact H2_) | with_reducible exact H | (rw [hy136]; exact H) | exact H
      have Ny136 := aK hy136; clear hy136; by_cases c8 : (strOfNums y136).size + x3_2.size ≤ 9223372036854775807
      ·rw [if_pos c8] at H; have c8b0 := eq_true c8; have c8b1 : decide ((strOfNums y136).size + x3_2.size ≤ 9223372036854775807) = true := decide_eq_true c8; try have c8b2 : (9223372036854775807 < (strOfNums y136).size + x3_2.size) = False := eq_false (Nat.not_lt.2 c8)
       have H' := aK H; clear H; go_wp2_with (first | ((with_reducible refine gate_dst (N := 20) rfl ?_); refine Kd.R_lit (Kd.int .u8) _ 5 ?hg (N := 20) ?hd (xs := ([(wrap64 (48 + (Int.tmod (wrap64 (Int.tdiv x0_2 10)) 10))) % 256] : List Int)) (inner := [.int .u8 ((wrap64 (48 + (Int.tmod (wrap64 (Int.tdiv x0_2 10)) 10))) % 256)]) (ok := fun _ => True) (okp := fun _ => True) ?hr ?hp (fun _ hk => hk) trivial (Below.refl _ _) (Nat.le_refl _) (by simp) ?_; (case hd => rfl); (case hg => rfl); (case hr => exact q26_); (case hp => exact (Reps.one (show Kd.M (Kd.int .u8) _ _ _ ((wrap64 (48 + (Int.tmod (wrap64 (Int.tdiv x0_2 10)) 10))) % 256) [.int .u8 ((wrap64 (48 + (Int.tmod (wrap64 (Int.tdiv x0_2 10)) 10))) % 256)] from rfl) (Reps.none _ _))); intro v137 w9 ho10 hb hg_ hnew_; clear hg_ hnew_; (first | rw [← Ny136.1] at ho10 | (simp only [Int.reduceToNat] at ho10; rw [← Ny136.1] at ho10)); have n0_ := aK (Kd.R_lower ho10 (below_size q2_)); have n1_ := aK (below_step q2_ hb); clear HB; have HO138 := n0_; have HB := n1_; clear n0_ n1_; clear hb ho10; have hcv11 := own_string (P := Tryz.prog) Tryz.underlying22 Tryz.underlying5 Tryz.underlying9 (Kd.own_of_R HO138.1)))
       go_roundg k2
       case measure => have := HJ1.1; have := HK2.1; omega
       case rel => exact ⟨(wrap64 (Int.tdiv x0_2 10)), ((strOfNums y136) ++ x3_2), q4_, q4_, H', ⟨by have := HJ1.1; have := HK2.1; omega⟩, ⟨q2_⟩⟩
      ·rw [if_neg c8] at H; exact absurd H (by simp)
     ·rw [if_neg c7] at H; have c7b0 : decide (9 < x0_2) = false := decide_eq_false c7; clear c7; obtain rfl := Option.some.inj H; go_wp2
      go_ret
      exact ⟨q15_, q2_⟩

def spec_l3HeadsText.l0 : Nat → List (S88) → ByteArray → Int → Option (ByteArray)
 | 0, _, _, _ => none
 | k + 1, x0, x3, x4 => if x4 < (x0.length : Int) then (if 0 ≤ x4 then (if x3.size + ((rd_T88 x0 x4).f0).size ≤ 9223372036854775807 then (if (x3 ++ ((rd_T88 x0 x4).f0)).size + 2 ≤ 9223372036854775807 then (if ((x3 ++ ((rd_T88 x0 x4).f0)) ++ (⟨#[58, 32]⟩ : ByteArray)).size + ((rd_T88 x0 x4).f1).size ≤ 9223372036854775807 then (if (((x3 ++ ((rd_T88 x0 x4).f0)) ++ (⟨#[58, 32]⟩ : ByteArray)) ++ ((rd_T88 x0 x4).f1)).size + 2 ≤ 9223372036854775807 then (spec_l3HeadsText.l0 k x0 ((((x3 ++ ((rd_T88 x0 x4).f0)) ++ (⟨#[58, 32]⟩ : ByteArray)) ++ ((rd_T88 x0 x4).f1)) ++ (⟨#[13, 10]⟩ : ByteArray)) (wrap64 (x4 + 1))) else (none)) else (none)) else (none)) else (none)) else (none)) else (some x3)
def spec_l3HeadsText.f (k : Nat) (l0 : List (S88)) : Option (ByteArray) := spec_l3HeadsText.l0 k l0 (⟨#[]⟩ : ByteArray) 0

theorem spec_l3HeadsText.calls (k : Nat) (A0 : Option Addr) (c0 : Nat) (l0 : List (S88)) (r : ByteArray) (w : World) (hr0 : Kd.C k88 w A0 l0.length l0) (hc0 : l0.length ≤ c0) (h : spec_l3HeadsText.f k l0 = some r) :
  Calls Tryz.prog 128 #[.slice A0 l0.length c0] w fun e w' => e = .returned (.string r) ∧ Drawn0 w w' := by
 have HR0 := aK hr0; have HC0 := aK hc0; clear hr0 hc0; have H : (spec_l3HeadsText.l0 k l0 (⟨#[]⟩ : ByteArray) 0) = some r := h; clear h; have H' := aK H; clear H; go_enter Tryz.func128, Tryz.ntmps128
 go_wp2
 repeat (go_quiet (fail); try go_wp2)
 go_loopg [3, 4] k (fun kq v3 v4 w' => ∃ (x3_1 : ByteArray) (x4_1 : Int), v3 = .string x3_1 ∧ v4 = .int .i64 x4_1 ∧ Aside0 (spec_l3HeadsText.l0 kq l0 x3_1 x4_1 = some r) ∧ Aside0 (kq ≤ k) ∧ Drawn0 w w')
 case atStart => exact ⟨((⟨#[]⟩ : ByteArray)), (0), q4_, q4_, H', ⟨Nat.le_refl _⟩, q17_⟩
 case round =>
  clear H'; (try clear c1); obtain ⟨x3_1, x4_1, rfl, rfl, HA, HK1, ⟨m1, rfl⟩⟩ := hrel; cases gk with
  | zero => exact absurd HA.1 (by simp [spec_l3HeadsText.l0])
  | succ k1 =>
   have H := HA.1; clear HA; simp only [spec_l3HeadsText.l0] at H; by_cases c2 : x4_1 < (l0.length : Int)
   ·rw [if_pos c2] at H; have c2b0 : decide (x4_1 < (l0.length : Int)) = true := decide_eq_true c2; clear c2; by_cases c3 : 0 ≤ x4_1
    ·rw [if_pos c3] at H; have c3b0 : decide (0 ≤ x4_1) = true := decide_eq_true c3; clear c3; by_cases c4 : x3_1.size + ((rd_T88 l0 x4_1).f0).size ≤ 9223372036854775807
     ·rw [if_pos c4] at H; have c4b0 := eq_true c4; have c4b1 : decide (x3_1.size + ((rd_T88 l0 x4_1).f0).size ≤ 9223372036854775807) = true := decide_eq_true c4; try have c4b2 : (9223372036854775807 < x3_1.size + ((rd_T88 l0 x4_1).f0).size) = False := eq_false (Nat.not_lt.2 c4)
      by_cases c5 : (x3_1 ++ ((rd_T88 l0 x4_1).f0)).size + 2 ≤ 9223372036854775807
      ·rw [if_pos c5] at H; have c5b0 := eq_true c5; have c5b1 : decide ((x3_1 ++ ((rd_T88 l0 x4_1).f0)).size + 2 ≤ 9223372036854775807) = true := decide_eq_true c5; try have c5b2 : (9223372036854775807 < (x3_1 ++ ((rd_T88 l0 x4_1).f0)).size + 2) = False := eq_false (Nat.not_lt.2 c5)
       have c5s : x3_1.size + ((rd_T88 l0 x4_1).f0).size + 2 ≤ 9223372036854775807 := by have h_ := c5; simp only [ByteArray.size_append] at h_; exact h_
       have c5s0 := eq_true c5s; have c5s1 : decide (x3_1.size + ((rd_T88 l0 x4_1).f0).size + 2 ≤ 9223372036854775807) = true := decide_eq_true c5s; have c5s2 : (9223372036854775807 < x3_1.size + ((rd_T88 l0 x4_1).f0).size + 2) = False := eq_false (Nat.not_lt.2 c5s); by_cases c6 : ((x3_1 ++ ((rd_T88 l0 x4_1).f0)) ++ (⟨#[58, 32]⟩ : ByteArray)).size + ((rd_T88 l0 x4_1).f1).size ≤ 9223372036854775807
       ·rw [if_pos c6] at H; have c6b0 := eq_true c6; have c6b1 : decide (((x3_1 ++ ((rd_T88 l0 x4_1).f0)) ++ (⟨#[58, 32]⟩ : ByteArray)).size + ((rd_T88 l0 x4_1).f1).size ≤ 9223372036854775807) = true := decide_eq_true c6; try have c6b2 : (9223372036854775807 < ((x3_1 ++ ((rd_T88 l0 x4_1).f0)) ++ (⟨#[58, 32]⟩ : ByteArray)).size + ((rd_T88 l0 x4_1).f1).size) = False := eq_false (Nat.not_lt.2 c6)
        have c6s : x3_1.size + ((rd_T88 l0 x4_1).f0).size + 2 + ((rd_T88 l0 x4_1).f1).size ≤ 9223372036854775807 := q213_; have c6s0 := eq_true c6s; have c6s1 : decide (x3_1.size + ((rd_T88 l0 x4_1).f0).size + 2 + ((rd_T88 l0 x4_1).f1).size ≤ 9223372036854775807) = true := decide_eq_true c6s; have c6s2 : (9223372036854775807 < x3_1.size + ((rd_T88 l0 x4_1).f0).size + 2 + ((rd_T88 l0 x4_1).f1).size) = False := eq_false (Nat.not_lt.2 c6s); by_cases c7 : (((x3_1 ++ ((rd_T88 l0 x4_1).f0)) ++ (⟨#[58, 32]⟩ : ByteArray)) ++ ((rd_T88 l0 x4_1).f1)).size + 2 ≤ 9223372036854775807
        ·rw [if_pos c7] at H; have c7b0 := eq_true c7; have c7b1 : decide ((((x3_1 ++ ((rd_T88 l0 x4_1).f0)) ++ (⟨#[58, 32]⟩ : ByteArray)) ++ ((rd_T88 l0 x4_1).f1)).size + 2 ≤ 9223372036854775807) = true := decide_eq_true c7; try have c7b2 : (9223372036854775807 < (((x3_1 ++ ((rd_T88 l0 x4_1).f0)) ++ (⟨#[58, 32]⟩ : ByteArray)) ++ ((rd_T88 l0 x4_1).f1)).size + 2) = False := eq_false (Nat.not_lt.2 c7)
         have c7s : x3_1.size + ((rd_T88 l0 x4_1).f0).size + 2 + ((rd_T88 l0 x4_1).f1).size + 2 ≤ 9223372036854775807 := by have h_ := c7; simp only [ByteArray.size_append] at h_; exact h_
         have c7s0 := eq_true c7s; have c7s1 : decide (x3_1.size + ((rd_T88 l0 x4_1).f0).size + 2 + ((rd_T88 l0 x4_1).f1).size + 2 ≤ 9223372036854775807) = true := decide_eq_true c7s; have c7s2 : (9223372036854775807 < x3_1.size + ((rd_T88 l0 x4_1).f0).size + 2 + ((rd_T88 l0 x4_1).f1).size + 2) = False := eq_false (Nat.not_lt.2 c7s); have H' := aK H; clear H; have p139 : 0 ≤ (x4_1 : Int) := of_decide_eq_true q3_; have q139 : x4_1 < (l0.length : Int) := of_decide_eq_true q3_; obtain ⟨ad139, e139, hx139_0, hx139_1⟩ := at_T88 HR0.1 x4_1 p139 q139; cases e139
         replace p139 := eq_true p139; replace q139 := eq_true q139; have p140 : 0 ≤ (x4_1 : Int) := of_decide_eq_true q3_; have q140 : x4_1 < (l0.length : Int) := of_decide_eq_true q3_; obtain ⟨ad140, e140, hx140_0, hx140_1⟩ := at_T88 HR0.1 x4_1 p140 q140; obtain rfl : ad139 = ad140 := (by injection e140); replace p140 := eq_true p140; replace q140 := eq_true q140; go_wp2
         repeat (go_quiet (fail); try go_wp2)
         go_roundg k1
         case measure => have := HK1.1; omega
         case rel => exact ⟨((((x3_1 ++ ((rd_T88 l0 x4_1).f0)) ++ (⟨#[58, 32]⟩ : ByteArray)) ++ ((rd_T88 l0 x4_1).f1)) ++ (⟨#[13, 10]⟩ : ByteArray)), (wrap64 (x4_1 + 1)), q4_, q4_, H', ⟨q144_⟩, q17_⟩
        ·rw [if_neg c7] at H; exact absurd H (by simp)
       ·rw [if_neg c6] at H; exact absurd H (by simp)
      ·rw [if_neg c5] at H; exact absurd H (by simp)
     ·rw [if_neg c4] at H; exact absurd H (by simp)
    ·rw [if_neg c3] at H; exact absurd H (by simp)
   ·rw [if_neg c2] at H; have c2b0 : decide (x4_1 < (l0.length : Int)) = false := decide_eq_false c2; clear c2; obtain rfl := Option.some.inj H; go_wp2
    repeat (go_quiet (fail); try go_wp2)
    go_ret
    exact ⟨q4_, q17_⟩

end Go.Proofs.YtfncjddolbghlaaGreatDoor.GFnResps
