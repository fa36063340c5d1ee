-- by gprint.py (this session's program over the kit's print.py) (a twelfth state) out of the translation. Not trusted: Lean checks it.
import Derived.Test.YtaajhdljdmbhhaaGreatDoorGFnExactFeedAllx0
import Derived.Test.YtaajhdljdmbhhaaGreatDoorGFnExactFeedAllx4
import Derived.Test.YtaajhdljdmbhhaaGreatDoorGFnExactFeedAllx7
namespace Go.Proofs.YtaajhdljdmbhhaaGreatDoor.GFnExactFeedAll
open Go.RowKit Go.Proofs.YtaajhdljdmbhhaaGreatDoorW.PrintWords Go.Proofs.YtaajhdljdmbhhaaGreatDoorW.PrintLast Go.Proofs.YtaajhdljdmbhhaaGreatDoorW.PrintMore
attribute [local go_sem] max2_int min2_int max_two min_two max_three min_three max_four min_four   -- for this text's walks alone
set_option linter.unusedVariables false
set_option linter.unusedSimpArgs false
set_option maxRecDepth 100000
set_option maxHeartbeats 8000000

def spec_SmallName.l0 : Nat → ByteArray → Int → Option (Bool)
 | 0, _, _ => none
 | k + 1, x0, x3 => if x3 < (x0.size : Int) then (if 0 ≤ x3 then ((spec_l1Small.f (bt x0 x3)).bind fun t215 => (if t215 = true then (spec_SmallName.l0 k x0 (wrap64 (x3 + 1))) else (if x3 = 0 then (some false) else ((spec_l1Digit.f (bt x0 x3)).bind fun t216 => (if t216 = true then (spec_SmallName.l0 k x0 (wrap64 (x3 + 1))) else (if (bt x0 x3) = 45 then (spec_SmallName.l0 k x0 (wrap64 (x3 + 1))) else (some false))))))) else (none)) else ((spec_l1In.f (x0.size : Int) 1 20).bind fun t214 => (some t214))
def spec_SmallName.f (k : Nat) (a0 : ByteArray) : Option (Bool) := spec_SmallName.l0 k a0 0

theorem spec_SmallName.calls (k : Nat) (a0 : ByteArray) (r : Bool) (w : World) (h : spec_SmallName.f k a0 = some r) :
  Calls Tryz.prog 139 #[.string a0] w fun e w' => e = .returned (.bool r) ∧ Drawn0 w w' := by
 have H : (spec_SmallName.l0 k a0 0) = some r := h; clear h; have H' := aK H; clear H; go_enter Tryz.func139, Tryz.ntmps139
 go_wp2
 go_loopg [3] k (fun kq v3 w' => ∃ (x3_1 : Int), v3 = .int .i64 x3_1 ∧ Aside0 (spec_SmallName.l0 kq a0 x3_1 = some r) ∧ Aside0 (kq ≤ k) ∧ Drawn0 w w')
 case atStart => exact ⟨(0), q2_, H', ⟨Nat.le_refl _⟩, q5_⟩
 case round =>
  clear H'; (try clear c1); obtain ⟨x3_1, rfl, HA, HK1, ⟨m1, rfl⟩⟩ := hrel; cases gk with
  | zero => exact absurd HA.1 (by simp [spec_SmallName.l0])
  | succ k1 =>
   have H := HA.1; clear HA; simp only [spec_SmallName.l0] at H; by_cases c2 : x3_1 < (a0.size : Int)
   ·rw [if_pos c2] at H; have c2b0 := decide_eq_true c2; clear c2; by_cases c3 : 0 ≤ x3_1
    ·rw [if_pos c3] at H; have c3b0 := decide_eq_true c3; clear c3; replace H := oB H; obtain ⟨t215, A5, H⟩ := H; (try dsimp only at H); by_cases c6 : t215 = true
     ·subst c6; rw [if_pos rfl] at H; have H' := aK H; clear H; have p4 : 0 ≤ (x3_1 : Int) := of_decide_eq_true q4_; have q4 : x3_1 < (a0.size : Int) := of_decide_eq_true q4_; have hx4 := bt_at a0 x3_1; replace p4 := eq_true p4; replace q4 := eq_true q4; go_wp2_with (first | ((with_reducible refine gate_callee (f := 160) rfl ?_); refine goesL_ (some 13) rfl rfl Tryz.func160 (by kernel_rfl) rfl #[.int .u8 (bt a0 x3_1)] rfl q3_ ?_; (with_reducible refine (spec_l1Small.calls (bt a0 x3_1) true _ A5.1).mono ?_); rintro e w' ⟨rfl, ⟨nd, rfl⟩⟩; refine ⟨_, rfl, ?_⟩))
      go_roundg k1
      case measure => have := HK1.1; omega
      case rel => exact ⟨(wrap64 (x3_1 + 1)), q2_, H', ⟨q64_⟩, q5_⟩
     ·replace c6 := Bool.eq_false_iff.mpr c6; subst c6; rw [if_neg (show ¬ (false = true) by decide)] at H; by_cases c7 : x3_1 = 0
      ·rw [if_pos c7] at H; have c7b0 := beq_iff_eq.mpr c7; have c7b1 : (x3_1 != 0) = false := bne_eq_false_iff_eq.mpr c7; clear c7; obtain rfl := Option.some.inj H; have p4 : 0 ≤ (x3_1 : Int) := of_decide_eq_true q4_; have q4 : x3_1 < (a0.size : Int) := of_decide_eq_true q4_; have hx4 := bt_at a0 x3_1; replace p4 := eq_true p4; replace q4 := eq_true q4; go_wp2_with (first | ((with_reducible refine gate_callee (f := 160) rfl ?_); refine goesL_ (some 13) rfl rfl Tryz.func160 (by kernel_rfl) rfl #[.int .u8 (bt a0 x3_1)] rfl q3_ ?_; (with_reducible refine (spec_l1Small.calls (bt a0 x3_1) false _ A5.1).mono ?_); rintro e w' ⟨rfl, ⟨nd, rfl⟩⟩; refine ⟨_, rfl, ?_⟩))
       go_ret
       exact ⟨q2_, q5_⟩
      ·rw [if_neg c7] at H; have c7b0 := beq_eq_false_iff_ne.mpr c7; have c7b1 : (x3_1 != 0) = true := bne_iff_ne.mpr c7; replace H := oB H; obtain ⟨t216, A9, H⟩ := H; (try dsimp only at H); by_cases c10 : t216 = true
       ·subst c10; rw [if_pos rfl] at H; have H' := aK H; clear H; have p4 : 0 ≤ (x3_1 : Int) := of_decide_eq_true q4_; have q4 : x3_1 < (a0.size : Int) := of_decide_eq_true q4_; have hx4 := bt_at a0 x3_1; replace p4 := eq_true p4; replace q4 := eq_true q4; go_wp2_with (first | ((with_reducible refine gate_callee (f := 160) rfl ?_); refine goesL_ (some 13) rfl rfl Tryz.func160 (by kernel_rfl) rfl #[.int .u8 (bt a0 x3_1)] rfl q3_ ?_; (with_reducible refine (spec_l1Small.calls (bt a0 x3_1) false _ A5.1).mono ?_); rintro e w' ⟨rfl, ⟨nd, rfl⟩⟩; refine ⟨_, rfl, ?_⟩; have p8 : 0 ≤ (x3_1 : Int) := of_decide_eq_true q4_; have q8 : x3_1 < (a0.size : Int) := of_decide_eq_true q4_; have hx8 := bt_at a0 x3_1; replace p8 := eq_true p8; replace q8 := eq_true q8) | (go_at_call 154; (with_reducible refine (spec_l1Digit.calls (bt a0 x3_1) true _ A9.1).mono ?_); rintro e w' ⟨rfl, ⟨nd, rfl⟩⟩))
        go_roundg k1
        case measure => have := HK1.1; omega
        case rel => exact ⟨(wrap64 (x3_1 + 1)), q2_, H', ⟨q64_⟩, q5_⟩
       ·replace c10 := Bool.eq_false_iff.mpr c10; subst c10; rw [if_neg (show ¬ (false = true) by decide)] at H; have HC12 := aK H; clear H; have p4 : 0 ≤ (x3_1 : Int) := of_decide_eq_true q4_; have q4 : x3_1 < (a0.size : Int) := of_decide_eq_true q4_; have hx4 := bt_at a0 x3_1; replace p4 := eq_true p4; replace q4 := eq_true q4; go_upto_if 31 with (first | ((with_reducible refine gate_callee (f := 160) rfl ?_); refine goesL_ (some 13) rfl rfl Tryz.func160 (by kernel_rfl) rfl #[.int .u8 (bt a0 x3_1)] rfl q3_ ?_; (with_reducible refine (spec_l1Small.calls (bt a0 x3_1) false _ A5.1).mono ?_); rintro e w' ⟨rfl, ⟨nd, rfl⟩⟩; refine ⟨_, rfl, ?_⟩; have p8 : 0 ≤ (x3_1 : Int) := of_decide_eq_true q4_; have q8 : x3_1 < (a0.size : Int) := of_decide_eq_true q4_; have hx8 := bt_at a0 x3_1; replace p8 := eq_true p8; replace q8 := eq_true q8) | (go_at_call 154; (with_reducible refine (spec_l1Digit.calls (bt a0 x3_1) false _ A9.1).mono ?_); rintro e w' ⟨rfl, ⟨nd, rfl⟩⟩; have p11 : 0 ≤ (x3_1 : Int) := of_decide_eq_true q4_; have q11 : x3_1 < (a0.size : Int) := of_decide_eq_true q4_; have hx11 := bt_at a0 x3_1; replace p11 := eq_true p11; replace q11 := eq_true q11))
        (try simp only [Act.put, sI, sZ, sS]); have H := HC12.1; clear HC12; by_cases c13 : (bt a0 x3_1) = 45
        ·rw [if_pos c13] at H; have c13b0 := beq_iff_eq.mpr c13; have c13b1 : ((bt a0 x3_1) != 45) = false := bne_eq_false_iff_eq.mpr c13; clear c13; (first | rw [c13b0] | rw [c13i0] | (simp only [i64_w, i32_w]; rw [c13b0]) | skip); have H' := aK H; clear H; go_wp2
         go_roundg k1
         case measure => have := HK1.1; omega
         case rel => exact ⟨(wrap64 (x3_1 + 1)), q2_, H', ⟨q64_⟩, q5_⟩
        ·rw [if_neg c13] at H; have c13b0 := beq_eq_false_iff_ne.mpr c13; have c13b1 : ((bt a0 x3_1) != 45) = true := bne_iff_ne.mpr c13; (first | rw [c13b0] | rw [c13i0] | (simp only [i64_w, i32_w]; rw [c13b0]) | skip); obtain rfl := Option.some.inj H; go_wp2
         go_ret
         exact ⟨q2_, q5_⟩
    ·rw [if_neg c3] at H; exact absurd H (by simp)
   ·rw [if_neg c2] at H; have c2b0 := decide_eq_false c2; clear c2; replace H := oB H; obtain ⟨t214, A14, H⟩ := H; (try dsimp only at H); obtain rfl := Option.some.inj H; go_wp2_with (first | ((with_reducible refine gate_callee (f := 84) rfl ?_); refine goesL_ (some 34) rfl rfl Tryz.func84 (by kernel_rfl) rfl #[.int .i64 (a0.size : Int), .int .i64 1, .int .i64 20] rfl q3_ ?_; (with_reducible refine (spec_l1In.calls (a0.size : Int) 1 20 t214 _ A14.1).mono ?_); rintro e w' ⟨rfl, ⟨nd, rfl⟩⟩; refine ⟨_, rfl, ?_⟩))
    go_ret
    exact ⟨q2_, q5_⟩

def spec_Plain.l0 : Nat → ByteArray → Int → Option (Bool)
 | 0, _, _ => none
 | k + 1, x0, x3 => if x3 < (x0.size : Int) then (if 0 ≤ x3 then ((spec_l1In.f (wrap64 (bt x0 x3)) 32 126).bind fun t217 => (if t217 = true then (spec_Plain.l0 k x0 (wrap64 (x3 + 1))) else (some false))) else (none)) else (some true)
def spec_Plain.f (k : Nat) (a0 : ByteArray) : Option (Bool) := spec_Plain.l0 k a0 0

theorem spec_Plain.calls (k : Nat) (a0 : ByteArray) (r : Bool) (w : World) (h : spec_Plain.f k a0 = some r) :
  Calls Tryz.prog 161 #[.string a0] w fun e w' => e = .returned (.bool r) ∧ Drawn0 w w' := by
 have H : (spec_Plain.l0 k a0 0) = some r := h; clear h; have H' := aK H; clear H; go_enter Tryz.func161, Tryz.ntmps161
 go_wp2
 go_loopg [3] k (fun kq v3 w' => ∃ (x3_1 : Int), v3 = .int .i64 x3_1 ∧ Aside0 (spec_Plain.l0 kq a0 x3_1 = some r) ∧ Aside0 (kq ≤ k) ∧ Drawn0 w w')
 case atStart => exact ⟨(0), q2_, H', ⟨Nat.le_refl _⟩, q5_⟩
 case round =>
  clear H'; (try clear c1); obtain ⟨x3_1, rfl, HA, HK1, ⟨m1, rfl⟩⟩ := hrel; cases gk with
  | zero => exact absurd HA.1 (by simp [spec_Plain.l0])
  | succ k1 =>
   have H := HA.1; clear HA; simp only [spec_Plain.l0] at H; by_cases c2 : x3_1 < (a0.size : Int)
   ·rw [if_pos c2] at H; have c2b0 := decide_eq_true c2; clear c2; by_cases c3 : 0 ≤ x3_1
    ·rw [if_pos c3] at H; have c3b0 := decide_eq_true c3; clear c3; replace H := oB H; obtain ⟨t217, A5, H⟩ := H; (try dsimp only at H); have HC6 := aK H; clear H; have p4 : 0 ≤ (x3_1 : Int) := of_decide_eq_true q4_; have q4 : x3_1 < (a0.size : Int) := of_decide_eq_true q4_; have hx4 := bt_at a0 x3_1; replace p4 := eq_true p4; replace q4 := eq_true q4; go_upto_if 15 with (first | ((with_reducible refine gate_callee (f := 84) rfl ?_); refine goesL_ (some 14) rfl rfl Tryz.func84 (by kernel_rfl) rfl #[.int .i64 (wrap64 (bt a0 x3_1)), .int .i64 32, .int .i64 126] rfl q3_ ?_; (with_reducible refine (spec_l1In.calls (wrap64 (bt a0 x3_1)) 32 126 t217 _ A5.1).mono ?_); rintro e w' ⟨rfl, ⟨nd, rfl⟩⟩; refine ⟨_, rfl, ?_⟩))
     (try simp only [Act.put, sI, sZ, sS]); have H := HC6.1; clear HC6; by_cases c7 : t217 = true
     ·subst c7; rw [if_pos rfl] at H; have H' := aK H; clear H; go_wp2
      go_roundg k1
      case measure => have := HK1.1; omega
      case rel => exact ⟨(wrap64 (x3_1 + 1)), q2_, H', ⟨q64_⟩, q5_⟩
     ·replace c7 := Bool.eq_false_iff.mpr c7; subst c7; rw [if_neg (show ¬ (false = true) by decide)] at H; obtain rfl := Option.some.inj H; go_wp2
      go_ret
      exact ⟨q2_, q5_⟩
    ·rw [if_neg c3] at H; exact absurd H (by simp)
   ·rw [if_neg c2] at H; have c2b0 := decide_eq_false c2; clear c2; obtain rfl := Option.some.inj H; go_wp2
    go_ret
    exact ⟨q2_, q5_⟩

def spec_l3Val.f (k : Nat) (a0 : ByteArray) : Option (Bool) := if (a0.size : Int) ≤ 60 then ((spec_Plain.f k a0).bind fun t218 => (if t218 = true then ((spec_Trim.f k a0).bind fun t219 => (some (t219.toList == a0.toList))) else (some false))) else (some false)

theorem spec_l3Val.calls (k : Nat) (a0 : ByteArray) (r : Bool) (w : World) (h : spec_l3Val.f k a0 = some r) :
  Calls Tryz.prog 140 #[.string a0] w fun e w' => e = .returned (.bool r) ∧ Drawn0 w w' := by
 have H := h; clear h; unfold spec_l3Val.f at H
 by_cases c2 : (a0.size : Int) ≤ 60
 ·rw [if_pos c2] at H; have c2b0 := decide_eq_true c2; have c2b1 : decide (a0.size ≤ 60) = true := decide_eq_true (by omega); clear c2; replace H := oB H; obtain ⟨t218, A3, H⟩ := H; (try dsimp only at H); by_cases c4 : t218 = true
  ·subst c4; rw [if_pos rfl] at H; replace H := oB H; obtain ⟨t219, A5, H⟩ := H; (try dsimp only at H); obtain rfl := Option.some.inj H; go_enter Tryz.func140, Tryz.ntmps140
   go_wp2_with (first | (go_at_call 161; (with_reducible refine (spec_Plain.calls k a0 true _ A3.1).mono ?_); rintro e w' ⟨rfl, ⟨nd, rfl⟩⟩) | (go_at_call 138; (with_reducible refine (spec_Trim.calls k a0 t219 _ A5.1).mono ?_); rintro e w' ⟨rfl, ⟨nd, rfl⟩⟩))
   go_ret
   exact ⟨q2_, q5_⟩
  ·replace c4 := Bool.eq_false_iff.mpr c4; subst c4; rw [if_neg (show ¬ (false = true) by decide)] at H; obtain rfl := Option.some.inj H; go_enter Tryz.func140, Tryz.ntmps140
   go_wp2_with (first | (go_at_call 161; (with_reducible refine (spec_Plain.calls k a0 false _ A3.1).mono ?_); rintro e w' ⟨rfl, ⟨nd, rfl⟩⟩))
   go_ret
   exact ⟨q2_, q5_⟩
 ·rw [if_neg c2] at H; have c2b0 := decide_eq_false c2; have c2b1 : decide (a0.size ≤ 60) = false := decide_eq_false (by omega); clear c2; obtain rfl := Option.some.inj H; go_enter Tryz.func140, Tryz.ntmps140
  go_wp2
  go_ret
  exact ⟨q2_, q5_⟩

mutual
def spec_ParseNum.l0 : Nat → ByteArray → Int → Int → Int → Option (Int × Bool)
 | 0, _, _, _, _ => none
 | k + 1, x0, x1, x6, x7 => if x7 < (x0.size : Int) then (spec_ParseNum.j1 k x0 x1 x6 x7 (decide (x7 < 8))) else (spec_ParseNum.j1 k x0 x1 x6 x7 false)
def spec_ParseNum.j1 : Nat → ByteArray → Int → Int → Int → Bool → Option (Int × Bool)
 | 0, _, _, _, _, _ => none
 | k + 1, x0, x1, x6, x7, x15 => if x15 = true then (if 0 ≤ x7 then (if x7 < (x0.size : Int) then ((spec_l1Digit.f (bt x0 x7)).bind fun t220 => (if t220 = true then (spec_ParseNum.l0 k x0 x1 (wrap64 ((wrap64 (x6 * 10)) + (((bt x0 x7) - 48) % 256))) (wrap64 (x7 + 1))) else (some (0, false)))) else (none)) else (none)) else ((spec_l1In.f (x0.size : Int) 1 7).bind fun t221 => (if t221 = true then (if (x0.size : Int) > 1 then (if 0 < (x0.size : Int) then (if (bt x0 0) = 48 then (some (0, false)) else (if x6 > x1 then (some (0, false)) else (some (x6, true)))) else (none)) else (if x6 > x1 then (some (0, false)) else (some (x6, true)))) else (some (0, false))))
end
def spec_ParseNum.f (k : Nat) (a0 : ByteArray) (a1 : Int) : Option (Int × Bool) := spec_ParseNum.l0 k a0 a1 0 0

theorem spec_ParseNum.calls (k : Nat) (a0 : ByteArray) (a1 : Int) (r1 : Int) (r2 : Bool) (w : World) (h : spec_ParseNum.f k a0 a1 = some (r1, r2)) :
  Calls Tryz.prog 141 #[.string a0, .int .i64 a1] w fun e w' => e = .returned (.tuple #[.int .i64 r1, .bool r2]) ∧ Drawn0 w w' := by
 have H : (spec_ParseNum.l0 k a0 a1 0 0) = some (r1, r2) := h; clear h; have H' := aK H; clear H; go_enter Tryz.func141, Tryz.ntmps141
 go_wp2
 go_loopg [6, 7] k (fun kq v6 v7 w' => ∃ (x6_1 : Int) (x7_1 : Int), v6 = .int .i64 x6_1 ∧ v7 = .int .i64 x7_1 ∧ Aside0 (spec_ParseNum.l0 kq a0 a1 x6_1 x7_1 = some (r1, r2)) ∧ Aside0 (kq ≤ k) ∧ Drawn0 w w')
 case atStart => exact ⟨(0), (0), q2_, q2_, H', ⟨Nat.le_refl _⟩, q5_⟩
 case round =>
  clear H'; (try clear c1); (try clear p2); obtain ⟨x6_1, x7_1, rfl, rfl, HA, HK1, ⟨m1, rfl⟩⟩ := hrel; cases gk with
  | zero => exact absurd HA.1 (by simp [spec_ParseNum.l0])
  | succ k1 =>
   have H := HA.1; clear HA; simp only [spec_ParseNum.l0] at H; have HC3 := aK H; clear H; go_upto_region 3 with (fail)
   go_cut [15] (fun v15 wc => ∃ (kq : Nat) (x15_2 : Bool), v15 = .bool x15_2 ∧ Aside0 (spec_ParseNum.j1 kq a0 a1 x6_1 x7_1 x15_2 = some (r1, r2)) ∧ Aside0 (kq ≤ k1) ∧ Drawn0 w wc)
   case first =>
    have H := HC3.1; clear HC3; by_cases c4 : x7_1 < (a0.size : Int)
    ·rw [if_pos c4] at H; have c4b0 := decide_eq_true c4; clear c4; (first | rw [c4b0] | rw [c4i0] | (simp only [i64_w, i32_w]; rw [c4b0]) | skip); have H' := aK H; clear H; go_wp2
     go_meet
     case rel => exact ⟨_, (decide (x7_1 < 8)), q2_, H', ⟨q65_⟩, q5_⟩
    ·rw [if_neg c4] at H; have c4b0 := decide_eq_false c4; clear c4; (first | rw [c4b0] | rw [c4i0] | (simp only [i64_w, i32_w]; rw [c4b0]) | skip); have H' := aK H; clear H; go_wp2
     go_meet
     case rel => exact ⟨_, (false), q2_, H', ⟨q65_⟩, q5_⟩
   case rest =>
    clear HC3; (try clear c1); (try clear p2); (try clear c4); (try clear c4b0); (try clear p2); obtain ⟨kq, x15_2, rfl, HA, HJ2, ⟨mc2, rfl⟩⟩ := hcut; cases kq with
    | zero => exact absurd HA.1 (by simp [spec_ParseNum.j1])
    | succ kj2 =>
     have H := HA.1; clear HA; simp only [spec_ParseNum.j1] at H; by_cases c5 : x15_2 = true
     ·subst c5; rw [if_pos rfl] at H; by_cases c6 : 0 ≤ x7_1
      ·rw [if_pos c6] at H; have c6b0 := decide_eq_true c6; clear c6; by_cases c7 : x7_1 < (a0.size : Int)
       ·rw [if_pos c7] at H; have c7b0 := decide_eq_true c7; clear c7; replace H := oB H; obtain ⟨t220, A9, H⟩ := H; (try dsimp only at H); have HC10 := aK H; clear H; have p8 : 0 ≤ (x7_1 : Int) := of_decide_eq_true q4_; have q8 : x7_1 < (a0.size : Int) := of_decide_eq_true q4_; have hx8 := bt_at a0 x7_1; replace p8 := eq_true p8; replace q8 := eq_true q8; go_upto_if 22 with (first | ((with_reducible refine gate_callee (f := 154) rfl ?_); refine goesL_ (some 21) rfl rfl Tryz.func154 (by kernel_rfl) rfl #[.int .u8 (bt a0 x7_1)] rfl q3_ ?_; (with_reducible refine (spec_l1Digit.calls (bt a0 x7_1) t220 _ A9.1).mono ?_); rintro e w' ⟨rfl, ⟨nd, rfl⟩⟩; refine ⟨_, rfl, ?_⟩))
        (try simp only [Act.put, sI, sZ, sS]); have H := HC10.1; clear HC10; by_cases c11 : t220 = true
        ·subst c11; rw [if_pos rfl] at H; have H' := aK H; clear H; have p12 : 0 ≤ (x7_1 : Int) := of_decide_eq_true q4_; have q12 : x7_1 < (a0.size : Int) := of_decide_eq_true q4_; have hx12 := bt_at a0 x7_1; replace p12 := eq_true p12; replace q12 := eq_true q12; go_wp2
         go_roundg kj2
         case measure => have := HK1.1; have := HJ2.1; omega
         case rel => exact ⟨(wrap64 ((wrap64 (x6_1 * 10)) + (((bt a0 x7_1) - 48) % 256))), (wrap64 (x7_1 + 1)), q2_, q2_, H', ⟨by have := HK1.1; have := HJ2.1; omega⟩, q5_⟩
        ·replace c11 := Bool.eq_false_iff.mpr c11; subst c11; rw [if_neg (show ¬ (false = true) by decide)] at H; simp only [Option.some.injEq, Prod.mk.injEq] at H; obtain ⟨rfl, rfl⟩ := H; go_wp2
         go_ret2
         exact ⟨q2_, q5_⟩
       ·rw [if_neg c7] at H; exact absurd H (by simp)
      ·rw [if_neg c6] at H; exact absurd H (by simp)
     ·replace c5 := Bool.eq_false_iff.mpr c5; subst c5; rw [if_neg (show ¬ (false = true) by decide)] at H; replace H := oB H; obtain ⟨t221, A13, H⟩ := H; (try dsimp only at H); by_cases c14 : t221 = true
      ·subst c14; rw [if_pos rfl] at H; by_cases c15 : (a0.size : Int) > 1
       ·rw [if_pos c15] at H; have c15b0 : decide (1 < (a0.size : Int)) = true := decide_eq_true c15; have c15b1 : decide (1 < a0.size) = true := decide_eq_true (by omega); clear c15; by_cases c16 : 0 < (a0.size : Int)
        ·rw [if_pos c16] at H; have c16b0 := decide_eq_true c16; have c16b1 : decide (0 < a0.size) = true := decide_eq_true (by omega); clear c16; by_cases c18 : (bt a0 0) = 48
         ·rw [if_pos c18] at H; have c18b0 := beq_iff_eq.mpr c18; have c18b1 : ((bt a0 0) != 48) = false := bne_eq_false_iff_eq.mpr c18; clear c18; simp only [Option.some.injEq, Prod.mk.injEq] at H; obtain ⟨rfl, rfl⟩ := H; go_wp2_with (first | ((with_reducible refine gate_callee (f := 84) rfl ?_); refine goesL_ (some 33) rfl rfl Tryz.func84 (by kernel_rfl) rfl #[.int .i64 (a0.size : Int), .int .i64 1, .int .i64 7] rfl q3_ ?_; (with_reducible refine (spec_l1In.calls (a0.size : Int) 1 7 true _ A13.1).mono ?_); rintro e w' ⟨rfl, ⟨nd, rfl⟩⟩; refine ⟨_, rfl, ?_⟩; have p17 : 0 ≤ (0 : Int) := (by omega); have q17 : 0 < a0.size := (by have : (0 : Int) < (a0.size : Int) := of_decide_eq_true q4_; omega); have hx17 : ∀ h : 0 < a0.size, ((a0[0]'h).toNat : Int) = bt a0 0 := bt_at a0 0; clear p17; have qi17 : (0 < (a0.size : Int)) = True := eq_true (of_decide_eq_true q4_); replace q17 := eq_true q17))
          go_ret2
          exact ⟨q2_, q5_⟩
         ·rw [if_neg c18] at H; have c18b0 := beq_eq_false_iff_ne.mpr c18; have c18b1 : ((bt a0 0) != 48) = true := bne_iff_ne.mpr c18; have HC19 := aK H; clear H; go_upto_if 49 with (first | ((with_reducible refine gate_callee (f := 84) rfl ?_); refine goesL_ (some 33) rfl rfl Tryz.func84 (by kernel_rfl) rfl #[.int .i64 (a0.size : Int), .int .i64 1, .int .i64 7] rfl q3_ ?_; (with_reducible refine (spec_l1In.calls (a0.size : Int) 1 7 true _ A13.1).mono ?_); rintro e w' ⟨rfl, ⟨nd, rfl⟩⟩; refine ⟨_, rfl, ?_⟩; have p17 : 0 ≤ (0 : Int) := (by omega); have q17 : 0 < a0.size := (by have : (0 : Int) < (a0.size : Int) := of_decide_eq_true q4_; omega); have hx17 : ∀ h : 0 < a0.size, ((a0[0]'h).toNat : Int) = bt a0 0 := bt_at a0 0; clear p17; have qi17 : (0 < (a0.size : Int)) = True := eq_true (of_decide_eq_true q4_); replace q17 := eq_true q17))
          (try simp only [Act.put, sI, sZ, sS]); have H := HC19.1; clear HC19; by_cases c20 : x6_1 > a1
          ·rw [if_pos c20] at H; have c20b0 : decide (a1 < x6_1) = true := decide_eq_true c20; clear c20; (first | rw [c20b0] | rw [c20i0] | (simp only [i64_w, i32_w]; rw [c20b0]) | skip); simp only [Option.some.injEq, Prod.mk.injEq] at H; obtain ⟨rfl, rfl⟩ := H; go_wp2
           go_ret2
           exact ⟨q2_, q5_⟩
          ·rw [if_neg c20] at H; have c20b0 : decide (a1 < x6_1) = false := decide_eq_false c20; clear c20; (first | rw [c20b0] | rw [c20i0] | (simp only [i64_w, i32_w]; rw [c20b0]) | skip); simp only [Option.some.injEq, Prod.mk.injEq] at H; obtain ⟨rfl, rfl⟩ := H; go_wp2
           go_ret2
           exact ⟨q2_, q5_⟩
        ·rw [if_neg c16] at H; exact absurd H (by simp)
       ·rw [if_neg c15] at H; have c15b0 : decide (1 < (a0.size : Int)) = false := decide_eq_false c15; have c15b1 : decide (1 < a0.size) = false := decide_eq_false (by omega); clear c15; have HC21 := aK H; clear H; go_upto_if 49 with (first | ((with_reducible refine gate_callee (f := 84) rfl ?_); refine goesL_ (some 33) rfl rfl Tryz.func84 (by kernel_rfl) rfl #[.int .i64 (a0.size : Int), .int .i64 1, .int .i64 7] rfl q3_ ?_; (with_reducible refine (spec_l1In.calls (a0.size : Int) 1 7 true _ A13.1).mono ?_); rintro e w' ⟨rfl, ⟨nd, rfl⟩⟩; refine ⟨_, rfl, ?_⟩))
        (try simp only [Act.put, sI, sZ, sS]); have H := HC21.1; clear HC21; by_cases c22 : x6_1 > a1
        ·rw [if_pos c22] at H; have c22b0 : decide (a1 < x6_1) = true := decide_eq_true c22; clear c22; (first | rw [c22b0] | rw [c22i0] | (simp only [i64_w, i32_w]; rw [c22b0]) | skip); simp only [Option.some.injEq, Prod.mk.injEq] at H; obtain ⟨rfl, rfl⟩ := H; go_wp2
         go_ret2
         exact ⟨q2_, q5_⟩
        ·rw [if_neg c22] at H; have c22b0 : decide (a1 < x6_1) = false := decide_eq_false c22; clear c22; (first | rw [c22b0] | rw [c22i0] | (simp only [i64_w, i32_w]; rw [c22b0]) | skip); simp only [Option.some.injEq, Prod.mk.injEq] at H; obtain ⟨rfl, rfl⟩ := H; go_wp2
         go_ret2
         exact ⟨q2_, q5_⟩
      ·replace c14 := Bool.eq_false_iff.mpr c14; subst c14; rw [if_neg (show ¬ (false = true) by decide)] at H; simp only [Option.some.injEq, Prod.mk.injEq] at H; obtain ⟨rfl, rfl⟩ := H; go_wp2_with (first | ((with_reducible refine gate_callee (f := 84) rfl ?_); refine goesL_ (some 33) rfl rfl Tryz.func84 (by kernel_rfl) rfl #[.int .i64 (a0.size : Int), .int .i64 1, .int .i64 7] rfl q3_ ?_; (with_reducible refine (spec_l1In.calls (a0.size : Int) 1 7 false _ A13.1).mono ?_); rintro e w' ⟨rfl, ⟨nd, rfl⟩⟩; refine ⟨_, rfl, ?_⟩))
       go_ret2
       exact ⟨q2_, q5_⟩

end Go.Proofs.YtaajhdljdmbhhaaGreatDoor.GFnExactFeedAll
