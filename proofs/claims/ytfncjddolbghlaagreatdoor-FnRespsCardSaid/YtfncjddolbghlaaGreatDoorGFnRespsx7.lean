-- by gprint.py (this session's program over the kit's print.py) (a twelfth state) out of the translation. Not trusted: Lean checks it.
import Derived.Test.YtfncjddolbghlaaGreatDoorGFnRespsx0
namespace Go.Proofs.YtfncjddolbghlaaGreatDoor.GFnResps
open Go.RowKit Go.Proofs.YtfncjddolbghlaaGreatDoorW.PrintWords Go.Proofs.YtfncjddolbghlaaGreatDoorW.PrintLast Go.Proofs.YtfncjddolbghlaaGreatDoorW.PrintMore
attribute [local go_sem] max2_int min2_int max_two min_two max_three min_three max_four min_four   -- for this text's walks alone
set_option linter.unusedVariables false
set_option linter.unusedSimpArgs false
set_option maxRecDepth 100000
set_option maxHeartbeats 8000000

def impl_in.f (a0 : Int) (a1 : Int) (a2 : Int) : Option (Bool) := if a0 ≥ a1 then (some (decide (a0 ≤ a2))) else (some false)
theorem impl_in.calls (a0 : Int) (a1 : Int) (a2 : Int) (r : Bool) (w : World) (h : impl_in.f a0 a1 a2 = some r) :
  Calls Tryz.prog 95 #[.int .i64 a0, .int .i64 a1, .int .i64 a2] w fun e w' => e = .returned (.bool r) ∧ Drawn0 w w' := by
 have H : (if a0 ≥ a1 then (some (decide (a0 ≤ a2))) else (some false)) = some r := h; clear h; by_cases c4 : a0 ≥ a1
 ·rw [if_pos c4] at H; have c4b0 : decide (a1 ≤ a0) = true := decide_eq_true c4; clear c4; obtain rfl := Option.some.inj H; go_enter Tryz.func95, Tryz.ntmps95
  go_wp2
  go_ret
  exact ⟨q4_, q17_⟩
 ·rw [if_neg c4] at H; have c4b0 : decide (a1 ≤ a0) = false := decide_eq_false c4; clear c4; obtain rfl := Option.some.inj H; go_enter Tryz.func95, Tryz.ntmps95
  go_wp2
  go_ret
  exact ⟨q4_, q17_⟩

def impl_isSmall.f (a0 : Int) : Option (Bool) := if a0 ≥ 97 then (some (decide (a0 ≤ 122))) else (some false)
theorem impl_isSmall.calls (a0 : Int) (r : Bool) (w : World) (h : impl_isSmall.f a0 = some r) :
  Calls Tryz.prog 162 #[.int .u8 a0] w fun e w' => e = .returned (.bool r) ∧ Drawn0 w w' := by
 have H : (if a0 ≥ 97 then (some (decide (a0 ≤ 122))) else (some false)) = some r := h; clear h; by_cases c2 : a0 ≥ 97
 ·rw [if_pos c2] at H; have c2b0 : decide (97 ≤ a0) = true := decide_eq_true c2; clear c2; obtain rfl := Option.some.inj H; go_enter Tryz.func162, Tryz.ntmps162
  go_wp2
  go_ret
  exact ⟨q4_, q17_⟩
 ·rw [if_neg c2] at H; have c2b0 : decide (97 ≤ a0) = false := decide_eq_false c2; clear c2; obtain rfl := Option.some.inj H; go_enter Tryz.func162, Tryz.ntmps162
  go_wp2
  go_ret
  exact ⟨q4_, q17_⟩

def impl_isDigit.f (a0 : Int) : Option (Bool) := if a0 ≥ 48 then (some (decide (a0 ≤ 57))) else (some false)
theorem impl_isDigit.calls (a0 : Int) (r : Bool) (w : World) (h : impl_isDigit.f a0 = some r) :
  Calls Tryz.prog 163 #[.int .u8 a0] w fun e w' => e = .returned (.bool r) ∧ Drawn0 w w' := by
 have H : (if a0 ≥ 48 then (some (decide (a0 ≤ 57))) else (some false)) = some r := h; clear h; by_cases c2 : a0 ≥ 48
 ·rw [if_pos c2] at H; have c2b0 : decide (48 ≤ a0) = true := decide_eq_true c2; clear c2; obtain rfl := Option.some.inj H; go_enter Tryz.func163, Tryz.ntmps163
  go_wp2
  go_ret
  exact ⟨q4_, q17_⟩
 ·rw [if_neg c2] at H; have c2b0 : decide (48 ≤ a0) = false := decide_eq_false c2; clear c2; obtain rfl := Option.some.inj H; go_enter Tryz.func163, Tryz.ntmps163
  go_wp2
  go_ret
  exact ⟨q4_, q17_⟩

def impl_SmallName.l0 : Nat → ByteArray → Int → Option (Bool)
 | 0, _, _ => none
 | k + 1, x0, x3 => if x3 < (x0.size : Int) then (if 0 ≤ x3 then ((impl_isSmall.f (bt x0 x3)).bind fun t183 => (if t183 = true then (impl_SmallName.l0 k x0 (wrap64 (x3 + 1))) else (if x3 = 0 then (some false) else ((impl_isDigit.f (bt x0 x3)).bind fun t184 => (if t184 = true then (impl_SmallName.l0 k x0 (wrap64 (x3 + 1))) else (if (bt x0 x3) = 45 then (impl_SmallName.l0 k x0 (wrap64 (x3 + 1))) else (some false))))))) else (none)) else ((impl_in.f (x0.size : Int) 1 20).bind fun t182 => (some t182))
def impl_SmallName.f (k : Nat) (a0 : ByteArray) : Option (Bool) := impl_SmallName.l0 k a0 0

theorem impl_SmallName.calls (k : Nat) (a0 : ByteArray) (r : Bool) (w : World) (h : impl_SmallName.f k a0 = some r) :
  Calls Tryz.prog 138 #[.string a0] w fun e w' => e = .returned (.bool r) ∧ Drawn0 w w' := by
 have H : (impl_SmallName.l0 k a0 0) = some r := h; clear h; have H' := aK H; clear H; go_enter Tryz.func138, Tryz.ntmps138
 go_wp2
 go_loopg [3] k (fun kq v3 w' => ∃ (x3_1 : Int), v3 = .int .i64 x3_1 ∧ Aside0 (impl_SmallName.l0 kq a0 x3_1 = some r) ∧ Aside0 (kq ≤ k) ∧ Drawn0 w w')
 case atStart => exact ⟨(0), q4_, H', ⟨Nat.le_refl _⟩, q17_⟩
 case round =>
  clear H'; (try clear c1); obtain ⟨x3_1, rfl, HA, HK1, ⟨m1, rfl⟩⟩ := hrel; cases gk with
  | zero => exact absurd HA.1 (by simp [impl_SmallName.l0])
  | succ k1 =>
   have H := HA.1; clear HA; simp only [impl_SmallName.l0] at H; by_cases c2 : x3_1 < (a0.size : Int)
   ·rw [if_pos c2] at H; have c2b0 : decide (x3_1 < (a0.size : Int)) = true := decide_eq_true c2; clear c2; by_cases c3 : 0 ≤ x3_1
    ·rw [if_pos c3] at H; have c3b0 : decide (0 ≤ x3_1) = true := decide_eq_true c3; clear c3; replace H := Option.bind_eq_some_iff.mp H; obtain ⟨t183, A50, H⟩ := H; (try dsimp only at H); have A5 := aK A50; clear A50; by_cases c6 : t183 = true
     ·subst c6; rw [if_pos rfl] at H; have H' := aK H; clear H; have p4 : 0 ≤ (x3_1 : Int) := of_decide_eq_true q3_; have q4 : x3_1 < (a0.size : Int) := of_decide_eq_true q3_; have hx4 := bt_at a0 x3_1; replace p4 := eq_true p4; replace q4 := eq_true q4; go_wp2_with (first | ((with_reducible refine gate_callee (f := 162) rfl ?_); refine goesL_ (some 13) rfl rfl Tryz.func162 (by kernel_rfl) rfl #[.int .u8 (bt a0 x3_1)] rfl q1_ ?_; (with_reducible refine (impl_isSmall.calls (bt a0 x3_1) true _ A5.1).mono ?_); rintro e w' ⟨rfl, ⟨nd, rfl⟩⟩; refine ⟨_, rfl, ?_⟩))
      go_roundg k1
      case measure => have := HK1.1; omega
      case rel => exact ⟨(wrap64 (x3_1 + 1)), q4_, H', ⟨q144_⟩, q17_⟩
     ·replace c6 := Bool.eq_false_iff.mpr c6; subst c6; rw [if_neg (show ¬ (false = true) by decide)] at H; by_cases c7 : x3_1 = 0
      ·rw [if_pos c7] at H; have c7b0 : (x3_1 == 0) = true := beq_iff_eq.mpr c7; have c7b1 : (x3_1 != 0) = false := bne_eq_false_iff_eq.mpr c7; clear c7; obtain rfl := Option.some.inj H; have p4 : 0 ≤ (x3_1 : Int) := of_decide_eq_true q3_; have q4 : x3_1 < (a0.size : Int) := of_decide_eq_true q3_; have hx4 := bt_at a0 x3_1; replace p4 := eq_true p4; replace q4 := eq_true q4; go_wp2_with (first | ((with_reducible refine gate_callee (f := 162) rfl ?_); refine goesL_ (some 13) rfl rfl Tryz.func162 (by kernel_rfl) rfl #[.int .u8 (bt a0 x3_1)] rfl q1_ ?_; (with_reducible refine (impl_isSmall.calls (bt a0 x3_1) false _ A5.1).mono ?_); rintro e w' ⟨rfl, ⟨nd, rfl⟩⟩; refine ⟨_, rfl, ?_⟩))
       go_ret
       exact ⟨q4_, q17_⟩
      ·rw [if_neg c7] at H; have c7b0 : (x3_1 == 0) = false := beq_eq_false_iff_ne.mpr c7; have c7b1 : (x3_1 != 0) = true := bne_iff_ne.mpr c7; replace H := Option.bind_eq_some_iff.mp H; obtain ⟨t184, A90, H⟩ := H; (try dsimp only at H); have A9 := aK A90; clear A90; by_cases c10 : t184 = true
       ·subst c10; rw [if_pos rfl] at H; have H' := aK H; clear H; have p4 : 0 ≤ (x3_1 : Int) := of_decide_eq_true q3_; have q4 : x3_1 < (a0.size : Int) := of_decide_eq_true q3_; have hx4 := bt_at a0 x3_1; replace p4 := eq_true p4; replace q4 := eq_true q4; go_wp2_with (first | ((with_reducible refine gate_callee (f := 162) rfl ?_); refine goesL_ (some 13) rfl rfl Tryz.func162 (by kernel_rfl) rfl #[.int .u8 (bt a0 x3_1)] rfl q1_ ?_; (with_reducible refine (impl_isSmall.calls (bt a0 x3_1) false _ A5.1).mono ?_); rintro e w' ⟨rfl, ⟨nd, rfl⟩⟩; refine ⟨_, rfl, ?_⟩; have p8 : 0 ≤ (x3_1 : Int) := of_decide_eq_true q3_; have q8 : x3_1 < (a0.size : Int) := of_decide_eq_true q3_; have hx8 := bt_at a0 x3_1; replace p8 := eq_true p8; replace q8 := eq_true q8) | (go_at_call 163; (with_reducible refine (impl_isDigit.calls (bt a0 x3_1) true _ A9.1).mono ?_); rintro e w' ⟨rfl, ⟨nd, rfl⟩⟩))
        go_roundg k1
        case measure => have := HK1.1; omega
        case rel => exact ⟨(wrap64 (x3_1 + 1)), q4_, H', ⟨q144_⟩, q17_⟩
       ·replace c10 := Bool.eq_false_iff.mpr c10; subst c10; rw [if_neg (show ¬ (false = true) by decide)] at H; by_cases c12 : (bt a0 x3_1) = 45
        ·rw [if_pos c12] at H; have c12b0 : ((bt a0 x3_1) == 45) = true := beq_iff_eq.mpr c12; have c12b1 : ((bt a0 x3_1) != 45) = false := bne_eq_false_iff_eq.mpr c12; clear c12; have H' := aK H; clear H; have p4 : 0 ≤ (x3_1 : Int) := of_decide_eq_true q3_; have q4 : x3_1 < (a0.size : Int) := of_decide_eq_true q3_; have hx4 := bt_at a0 x3_1; replace p4 := eq_true p4; replace q4 := eq_true q4; go_wp2_with (first | ((with_reducible refine gate_callee (f := 162) rfl ?_); refine goesL_ (some 13) rfl rfl Tryz.func162 (by kernel_rfl) rfl #[.int .u8 (bt a0 x3_1)] rfl q1_ ?_; (with_reducible refine (impl_isSmall.calls (bt a0 x3_1) false _ A5.1).mono ?_); rintro e w' ⟨rfl, ⟨nd, rfl⟩⟩; refine ⟨_, rfl, ?_⟩; have p8 : 0 ≤ (x3_1 : Int) := of_decide_eq_true q3_; have q8 : x3_1 < (a0.size : Int) := of_decide_eq_true q3_; have hx8 := bt_at a0 x3_1; replace p8 := eq_true p8; replace q8 := eq_true q8) | (go_at_call 163; (with_reducible refine (impl_isDigit.calls (bt a0 x3_1) false _ A9.1).mono ?_); rintro e w' ⟨rfl, ⟨nd, rfl⟩⟩; have p11 : 0 ≤ (x3_1 : Int) := of_decide_eq_true q3_; have q11 : x3_1 < (a0.size : Int) := of_decide_eq_true q3_; have hx11 := bt_at a0 x3_1; replace p11 := eq_true p11; replace q11 := eq_true q11))
         go_roundg k1
         case measure => have := HK1.1; omega
         case rel => exact ⟨(wrap64 (x3_1 + 1)), q4_, H', ⟨q144_⟩, q17_⟩
        ·rw [if_neg c12] at H; have c12b0 : ((bt a0 x3_1) == 45) = false := beq_eq_false_iff_ne.mpr c12; have c12b1 : ((bt a0 x3_1) != 45) = true := bne_iff_ne.mpr c12; obtain rfl := Option.some.inj H; have p4 : 0 ≤ (x3_1 : Int) := of_decide_eq_true q3_; have q4 : x3_1 < (a0.size : Int) := of_decide_eq_true q3_; have hx4 := bt_at a0 x3_1; replace p4 := eq_true p4; replace q4 := eq_true q4; go_wp2_with (first | ((with_reducible refine gate_callee (f := 162) rfl ?_); refine goesL_ (some 13) rfl rfl Tryz.func162 (by kernel_rfl) rfl #[.int .u8 (bt a0 x3_1)] rfl q1_ ?_; (with_reducible refine (impl_isSmall.calls (bt a0 x3_1) false _ A5.1).mono ?_); rintro e w' ⟨rfl, ⟨nd, rfl⟩⟩; refine ⟨_, rfl, ?_⟩; have p8 : 0 ≤ (x3_1 : Int) := of_decide_eq_true q3_; have q8 : x3_1 < (a0.size : Int) := of_decide_eq_true q3_; have hx8 := bt_at a0 x3_1; replace p8 := eq_true p8; replace q8 := eq_true q8) | (go_at_call 163; (with_reducible refine (impl_isDigit.calls (bt a0 x3_1) false _ A9.1).mono ?_); rintro e w' ⟨rfl, ⟨nd, rfl⟩⟩; have p11 : 0 ≤ (x3_1 : Int) := of_decide_eq_true q3_; have q11 : x3_1 < (a0.size : Int) := of_decide_eq_true q3_; have hx11 := bt_at a0 x3_1; replace p11 := eq_true p11; replace q11 := eq_true q11))
         go_ret
         exact ⟨q4_, q17_⟩
    ·rw [if_neg c3] at H; exact absurd H (by simp)
   ·rw [if_neg c2] at H; have c2b0 : decide (x3_1 < (a0.size : Int)) = false := decide_eq_false c2; clear c2; replace H := Option.bind_eq_some_iff.mp H; obtain ⟨t182, A130, H⟩ := H; (try dsimp only at H); have A13 := aK A130; clear A130; obtain rfl := Option.some.inj H; go_wp2_with (first | ((with_reducible refine gate_callee (f := 95) rfl ?_); refine goesL_ (some 34) rfl rfl Tryz.func95 (by kernel_rfl) rfl #[.int .i64 (a0.size : Int), .int .i64 1, .int .i64 20] rfl q1_ ?_; (with_reducible refine (impl_in.calls (a0.size : Int) 1 20 t182 _ A13.1).mono ?_); rintro e w' ⟨rfl, ⟨nd, rfl⟩⟩; refine ⟨_, rfl, ?_⟩))
    go_ret
    exact ⟨q4_, q17_⟩

def impl_isPlain.f (a0 : Int) : Option (Bool) := if a0 ≥ 32 then (some (decide (a0 ≤ 126))) else (some false)
theorem impl_isPlain.calls (a0 : Int) (r : Bool) (w : World) (h : impl_isPlain.f a0 = some r) :
  Calls Tryz.prog 181 #[.int .u8 a0] w fun e w' => e = .returned (.bool r) ∧ Drawn0 w w' := by
 have H : (if a0 ≥ 32 then (some (decide (a0 ≤ 126))) else (some false)) = some r := h; clear h; by_cases c2 : a0 ≥ 32
 ·rw [if_pos c2] at H; have c2b0 : decide (32 ≤ a0) = true := decide_eq_true c2; clear c2; obtain rfl := Option.some.inj H; go_enter Tryz.func181, Tryz.ntmps181
  go_wp2
  go_ret
  exact ⟨q4_, q17_⟩
 ·rw [if_neg c2] at H; have c2b0 : decide (32 ≤ a0) = false := decide_eq_false c2; clear c2; obtain rfl := Option.some.inj H; go_enter Tryz.func181, Tryz.ntmps181
  go_wp2
  go_ret
  exact ⟨q4_, q17_⟩

def impl_Plain.l0 : Nat → ByteArray → Int → Option (Bool)
 | 0, _, _ => none
 | k + 1, x0, x3 => if x3 < (x0.size : Int) then (if 0 ≤ x3 then ((impl_isPlain.f (bt x0 x3)).bind fun t185 => (if t185 = true then (impl_Plain.l0 k x0 (wrap64 (x3 + 1))) else (some false))) else (none)) else (some true)
def impl_Plain.f (k : Nat) (a0 : ByteArray) : Option (Bool) := impl_Plain.l0 k a0 0

theorem impl_Plain.calls (k : Nat) (a0 : ByteArray) (r : Bool) (w : World) (h : impl_Plain.f k a0 = some r) :
  Calls Tryz.prog 155 #[.string a0] w fun e w' => e = .returned (.bool r) ∧ Drawn0 w w' := by
 have H : (impl_Plain.l0 k a0 0) = some r := h; clear h; have H' := aK H; clear H; go_enter Tryz.func155, Tryz.ntmps155
 go_wp2
 go_loopg [3] k (fun kq v3 w' => ∃ (x3_1 : Int), v3 = .int .i64 x3_1 ∧ Aside0 (impl_Plain.l0 kq a0 x3_1 = some r) ∧ Aside0 (kq ≤ k) ∧ Drawn0 w w')
 case atStart => exact ⟨(0), q4_, H', ⟨Nat.le_refl _⟩, q17_⟩
 case round =>
  clear H'; (try clear c1); obtain ⟨x3_1, rfl, HA, HK1, ⟨m1, rfl⟩⟩ := hrel; cases gk with
  | zero => exact absurd HA.1 (by simp [impl_Plain.l0])
  | succ k1 =>
   have H := HA.1; clear HA; simp only [impl_Plain.l0] at H; by_cases c2 : x3_1 < (a0.size : Int)
   ·rw [if_pos c2] at H; have c2b0 : decide (x3_1 < (a0.size : Int)) = true := decide_eq_true c2; clear c2; by_cases c3 : 0 ≤ x3_1
    ·rw [if_pos c3] at H; have c3b0 : decide (0 ≤ x3_1) = true := decide_eq_true c3; clear c3; replace H := Option.bind_eq_some_iff.mp H; obtain ⟨t185, A50, H⟩ := H; (try dsimp only at H); have A5 := aK A50; clear A50; by_cases c6 : t185 = true
     ·subst c6; rw [if_pos rfl] at H; have H' := aK H; clear H; have p4 : 0 ≤ (x3_1 : Int) := of_decide_eq_true q3_; have q4 : x3_1 < (a0.size : Int) := of_decide_eq_true q3_; have hx4 := bt_at a0 x3_1; replace p4 := eq_true p4; replace q4 := eq_true q4; go_wp2_with (first | ((with_reducible refine gate_callee (f := 181) rfl ?_); refine goesL_ (some 13) rfl rfl Tryz.func181 (by kernel_rfl) rfl #[.int .u8 (bt a0 x3_1)] rfl q1_ ?_; (with_reducible refine (impl_isPlain.calls (bt a0 x3_1) true _ A5.1).mono ?_); rintro e w' ⟨rfl, ⟨nd, rfl⟩⟩; refine ⟨_, rfl, ?_⟩))
      go_roundg k1
      case measure => have := HK1.1; omega
      case rel => exact ⟨(wrap64 (x3_1 + 1)), q4_, H', ⟨q144_⟩, q17_⟩
     ·replace c6 := Bool.eq_false_iff.mpr c6; subst c6; rw [if_neg (show ¬ (false = true) by decide)] at H; obtain rfl := Option.some.inj H; have p4 : 0 ≤ (x3_1 : Int) := of_decide_eq_true q3_; have q4 : x3_1 < (a0.size : Int) := of_decide_eq_true q3_; have hx4 := bt_at a0 x3_1; replace p4 := eq_true p4; replace q4 := eq_true q4; go_wp2_with (first | ((with_reducible refine gate_callee (f := 181) rfl ?_); refine goesL_ (some 13) rfl rfl Tryz.func181 (by kernel_rfl) rfl #[.int .u8 (bt a0 x3_1)] rfl q1_ ?_; (with_reducible refine (impl_isPlain.calls (bt a0 x3_1) false _ A5.1).mono ?_); rintro e w' ⟨rfl, ⟨nd, rfl⟩⟩; refine ⟨_, rfl, ?_⟩))
      go_ret
      exact ⟨q4_, q17_⟩
    ·rw [if_neg c3] at H; exact absurd H (by simp)
   ·rw [if_neg c2] at H; have c2b0 : decide (x3_1 < (a0.size : Int)) = false := decide_eq_false c2; clear c2; obtain rfl := Option.some.inj H; go_wp2
    go_ret
    exact ⟨q4_, q17_⟩


def strings_Trim.f (a0 : ByteArray) (a1 : ByteArray) : Option ByteArray := if a0.size ≤ 9223372036854775807 ∧ a1.data.toList.all (fun b => decide (b.toNat < 128)) = true ∧ a1.size < 4294967281 then some ⟨(Lib.trimS a0.data.toList a1.data.toList).toArray⟩ else none
theorem strings_Trim.calls (a0 : ByteArray) (a1 : ByteArray) (r : ByteArray) (w : World) (h : strings_Trim.f a0 a1 = some r) :
  Calls Tryz.prog 190 #[.string a0, .string a1] w fun e w' => e = .returned (.string r) ∧ Below w.heap.size w w' := by
 unfold strings_Trim.f at h
 split at h
 ·rename_i hs
  obtain rfl := Option.some.inj h; exact (Go.Proofs.YtfncjddolbghlaaGreatDoor.Shelf.Tryz.strings_Trim_laid a0 a1 w hs.1 hs.2.2 (fun j b hb => of_decide_eq_true (List.all_eq_true.1 hs.2.1 b (List.mem_of_getElem? hb)))).mono fun e w' ⟨he, hw⟩ => ⟨he, hw⟩
 ·cases h

def impl_Trim.f (a0 : ByteArray) : Option (ByteArray) := (strings_Trim.f a0 (⟨#[32, 9]⟩ : ByteArray)).bind fun t186 => (some t186)
theorem impl_Trim.calls (a0 : ByteArray) (r : ByteArray) (w : World) (h : impl_Trim.f a0 = some r) :
  Calls Tryz.prog 164 #[.string a0] w fun e w' => e = .returned (.string r) ∧ Below w.heap.size w w' := by
 have HB := aK (Below.refl w.heap.size w); have H : ((strings_Trim.f a0 (⟨#[32, 9]⟩ : ByteArray)).bind fun t186 => (some t186)) = some r := h; clear h; replace H := Option.bind_eq_some_iff.mp H; obtain ⟨t186, A20, H⟩ := H; (try dsimp only at H); have A2 := aK A20; clear A20; obtain rfl := Option.some.inj H; go_enter Tryz.func164, Tryz.ntmps164
 go_wp2_with (first | ((with_reducible refine gate_callee (f := 190) rfl ?_); refine goesL_ (some 4) rfl rfl Tryz.func190 (by kernel_rfl) rfl #[.string a0, .string (⟨#[32, 9]⟩ : ByteArray)] rfl q1_ ?_; (with_reducible refine (strings_Trim.calls a0 (⟨#[32, 9]⟩ : ByteArray) t186 _ A2.1).mono ?_); rintro e w3 ⟨rfl, hb⟩; refine ⟨_, rfl, ?_⟩; have n0_ := aK (below_step q2_ hb); clear HB; have HB := n0_; clear n0_; (try clear hb); (try clear hb2); (try clear hk); (try clear hi)))
 go_ret
 exact ⟨q15_, q2_⟩

def impl_valOk.f (k : Nat) (a0 : ByteArray) : Option (Bool) := if (a0.size : Int) ≤ 60 then ((impl_Plain.f k a0).bind fun t187 => (if t187 = true then ((impl_Trim.f a0).bind fun t188 => (some (t188.toList == a0.toList))) else (some false))) else (some false)

theorem impl_valOk.calls (k : Nat) (a0 : ByteArray) (r : Bool) (w : World) (h : impl_valOk.f k a0 = some r) :
  Calls Tryz.prog 139 #[.string a0] w fun e w' => e = .returned (.bool r) ∧ Below w.heap.size w w' := by
 have HB := aK (Below.refl w.heap.size w); have H : (if (a0.size : Int) ≤ 60 then ((impl_Plain.f k a0).bind fun t187 => (if t187 = true then ((impl_Trim.f a0).bind fun t188 => (some (t188.toList == a0.toList))) else (some false))) else (some false)) = some r := h; clear h; by_cases c2 : (a0.size : Int) ≤ 60
 ·rw [if_pos c2] at H; have c2b0 : decide ((a0.size : Int) ≤ 60) = true := decide_eq_true c2; have c2b1 : decide (a0.size ≤ 60) = true := decide_eq_true (by omega); clear c2; replace H := Option.bind_eq_some_iff.mp H; obtain ⟨t187, A30, H⟩ := H; (try dsimp only at H); have A3 := aK A30; clear A30; by_cases c4 : t187 = true
  ·subst c4; rw [if_pos rfl] at H; replace H := Option.bind_eq_some_iff.mp H; obtain ⟨t188, A50, H⟩ := H; (try dsimp only at H); have A5 := aK A50; clear A50; obtain rfl := Option.some.inj H; go_enter Tryz.func139, Tryz.ntmps139
   go_wp2_with (first | (go_at_call 155; (with_reducible refine (impl_Plain.calls k a0 true _ A3.1).mono ?_); rintro e w' ⟨rfl, ⟨nd, rfl⟩⟩) | (go_at_call 164; (with_reducible refine (impl_Trim.calls a0 t188 _ A5.1).mono ?_); rintro e w6 ⟨rfl, hb⟩; have n0_ := aK (below_step q2_ hb); clear HB; have HB := n0_; clear n0_; (try clear hb); (try clear hb2); (try clear hk); (try clear hi)))
   go_ret
   exact ⟨q15_, q2_⟩
  ·replace c4 := Bool.eq_false_iff.mpr c4; subst c4; rw [if_neg (show ¬ (false = true) by decide)] at H; obtain rfl := Option.some.inj H; go_enter Tryz.func139, Tryz.ntmps139
   go_wp2_with (first | (go_at_call 155; (with_reducible refine (impl_Plain.calls k a0 false _ A3.1).mono ?_); rintro e w' ⟨rfl, ⟨nd, rfl⟩⟩))
   go_ret
   exact ⟨q15_, q2_⟩
 ·rw [if_neg c2] at H; have c2b0 : decide ((a0.size : Int) ≤ 60) = false := decide_eq_false c2; have c2b1 : decide (a0.size ≤ 60) = false := decide_eq_false (by omega); clear c2; obtain rfl := Option.some.inj H; go_enter Tryz.func139, Tryz.ntmps139
  go_wp2
  go_ret
  exact ⟨q15_, q2_⟩

def impl_headsOk.l0 : Nat → List (S88) → List (S88) → Int → Int → Option (Bool)
 | 0, _, _, _, _ => none
 | k + 1, x0, x5, x6, x7 => if x7 < x6 then (if 0 ≤ x7 then (if x7 < (x5.length : Int) then ((impl_SmallName.f k ((rd_T88 x5 x7).f0)).bind fun t191 => (if t191 = true then ((impl_valOk.f k ((rd_T88 x5 x7).f1)).bind fun t192 => (if t192 = true then (if ((rd_T88 x5 x7).f0).toList = ([99, 111, 110, 116, 101, 110, 116, 45, 108, 101, 110, 103, 116, 104] : List UInt8) then (some false) else (if ((rd_T88 x5 x7).f0).toList = ([116, 114, 97, 110, 115, 102, 101, 114, 45, 101, 110, 99, 111, 100, 105, 110, 103] : List UInt8) then (some false) else (impl_headsOk.l0 k x0 x5 x6 (wrap64 (x7 + 1))))) else (some false))) else (some false))) else (none)) else (none)) else (some (decide ((x0.length : Int) ≤ 8)))
def impl_headsOk.f (k : Nat) (l0 : List (S88)) : Option (Bool) := impl_headsOk.l0 k l0 l0 (l0.length : Int) 0

theorem impl_headsOk.calls (k : Nat) (A0 : Option Addr) (c0 : Nat) (l0 : List (S88)) (r : Bool) (w : World) (hr0 : Kd.C k88 w A0 l0.length l0) (hc0 : l0.length ≤ c0) (h : impl_headsOk.f k l0 = some r) :
  Calls Tryz.prog 96 #[.slice A0 l0.length c0] w fun e w' => e = .returned (.bool r) ∧ Below w.heap.size w w' := by
 have hu88 := Tryz.underlying88; have HR0 := aK hr0; have HC0 := aK hc0; clear hr0 hc0; have HB := aK (Below.refl w.heap.size w); have H : (impl_headsOk.l0 k l0 l0 (l0.length : Int) 0) = some r := h; clear h; have H' := aK H; clear H; go_enter Tryz.func96, Tryz.ntmps96
 go_wp2
 go_loopg [7] k (fun kq v7 w' => ∃ (x7_1 : Int), v7 = .int .i64 x7_1 ∧ Aside0 (impl_headsOk.l0 kq l0 l0 (l0.length : Int) x7_1 = some r) ∧ Aside0 (kq ≤ k) ∧ Aside0 (Below w.heap.size w w'))
 case atStart => exact ⟨(0), q4_, H', ⟨Nat.le_refl _⟩, ⟨q2_⟩⟩
 case round =>
  clear H'; obtain ⟨x7_1, rfl, HA, HK1, HB⟩ := hrel; cases gk with
  | zero => exact absurd HA.1 (by simp [impl_headsOk.l0])
  | succ k1 =>
   have H := HA.1; clear HA; simp only [impl_headsOk.l0] at H; by_cases c2 : x7_1 < (l0.length : Int)
   ·rw [if_pos c2] at H; have c2b0 : decide (x7_1 < (l0.length : Int)) = true := decide_eq_true c2; clear c2; by_cases c3 : 0 ≤ x7_1
    ·rw [if_pos c3] at H; have c3b0 : decide (0 ≤ x7_1) = true := decide_eq_true c3; clear c3; by_cases c4 : x7_1 < (l0.length : Int)
     ·rw [if_pos c4] at H; have c4b0 : decide (x7_1 < (l0.length : Int)) = true := decide_eq_true c4; clear c4; replace H := Option.bind_eq_some_iff.mp H; obtain ⟨t191, A50, H⟩ := H; (try dsimp only at H); have A5 := aK A50; clear A50; by_cases c6 : t191 = true
      ·subst c6; rw [if_pos rfl] at H; replace H := Option.bind_eq_some_iff.mp H; obtain ⟨t192, A70, H⟩ := H; (try dsimp only at H); have A7 := aK A70; clear A70; by_cases c8 : t192 = true
       ·subst c8; rw [if_pos rfl] at H; by_cases c9 : ((rd_T88 l0 x7_1).f0).toList = ([99, 111, 110, 116, 101, 110, 116, 45, 108, 101, 110, 103, 116, 104] : List UInt8)
        ·rw [if_pos c9] at H; have c9b0 : (((rd_T88 l0 x7_1).f0).toList == ([99, 111, 110, 116, 101, 110, 116, 45, 108, 101, 110, 103, 116, 104] : List UInt8)) = true := beq_iff_eq.mpr c9; have c9b1 : (((rd_T88 l0 x7_1).f0).toList != ([99, 111, 110, 116, 101, 110, 116, 45, 108, 101, 110, 103, 116, 104] : List UInt8)) = false := bne_eq_false_iff_eq.mpr c9; clear c9; obtain rfl := Option.some.inj H; have p189 : 0 ≤ (x7_1 : Int) := of_decide_eq_true q3_; have q189 : x7_1 < (l0.length : Int) := of_decide_eq_true q3_; obtain ⟨ad189, e189, hx189_0, hx189_1⟩ := at_T88 HR0.1 x7_1 p189 q189; cases e189
         replace hx189_0 := (HB.1.cell (World.block_lt_of_cell? w _ hx189_0)).trans hx189_0; replace hx189_1 := (HB.1.cell (World.block_lt_of_cell? w _ hx189_1)).trans hx189_1; replace p189 := eq_true p189; replace q189 := eq_true q189; go_wp2_with (first | ((with_reducible refine gate_dst (N := 4) rfl ?_); refine box_event ?hg (N := 4) ?hd (cs := #[.string (⟨#[]⟩ : ByteArray), .string (⟨#[]⟩ : ByteArray)]) (t := 88) ?hr ?_; (case hd => rfl); (case hg => rfl); (case hr => exact q26_); intro gb190 hg w10 hbox hb; have n0_ := aK (below_step q2_ hb); have n1_ := aK (hbox); have n2_ := aK ((q44_ : w.heap.size ≤ gb190)); have n3_ := aK ((q44_ : w.heap.size ≤ gb190)); clear HB; have HB := n0_; have BK190 := n1_; have GW190 := n2_; have GE190 := n3_; clear n0_ n1_ n2_ n3_; clear hb hbox hg; have hcz11_0 : w10.cell? ⟨gb190, 0, none⟩ = some (.string (⟨#[]⟩ : ByteArray)) := (bc_ BK190.1 0).trans rfl; have hcz11_1 : w10.cell? ⟨gb190, 1, none⟩ = some (.string (⟨#[]⟩ : ByteArray)) := (bc_ BK190.1 1).trans rfl; have hfz11_0 := bF_ BK190.1 0; have hfz11_1 := bF_ BK190.1 1) | ((with_reducible refine gate_callee (f := 138) rfl ?_); refine goesL_ (some 13) rfl rfl Tryz.func138 (by kernel_rfl) rfl #[.string ((rd_T88 l0 x7_1).f0)] rfl q1_ ?_; (with_reducible refine (impl_SmallName.calls k1 ((rd_T88 l0 x7_1).f0) true _ A5.1).mono ?_); rintro e w' ⟨rfl, ⟨nd, rfl⟩⟩; refine ⟨_, rfl, ?_⟩) | (go_at_call 139; (with_reducible refine (impl_valOk.calls k1 ((rd_T88 l0 x7_1).f1) true _ A7.1).mono ?_); rintro e w12 ⟨rfl, hb⟩; have n0_ := aK (bB_ (g := gb190) (o := .cells #[.string ((rd_T88 l0 x7_1).f0), .string ((rd_T88 l0 x7_1).f1)] 88 (0, 0)) (by (with_reducible repeat (first | refine bN_ ?_ _ | refine bD_ ?_ | refine bA_ ?_ _)); refine blk_put (cs := #[.string ((rd_T88 l0 x7_1).f0), .string (⟨#[]⟩ : ByteArray)]) ?_ 1 _ rfl; (with_reducible repeat (first | refine bN_ ?_ _ | refine bD_ ?_ | refine bA_ ?_ _)); refine blk_put (cs := #[.string (⟨#[]⟩ : ByteArray), .string (⟨#[]⟩ : ByteArray)]) ?_ 0 _ rfl; (with_reducible repeat (first | refine bN_ ?_ _ | refine bD_ ?_ | refine bA_ ?_ _)); exact BK190.1) hb); have n1_ := aK (below_step q62_ hb); clear BK190 HB; have BK190 := n0_; have HB := n1_; clear n0_ n1_; (try clear hb); (try clear hb2); (try clear hk); (try clear hi); have hcz13_0 : w12.cell? ⟨gb190, 0, none⟩ = some (.string ((rd_T88 l0 x7_1).f0)) := (bc_ BK190.1 0).trans rfl; have hcz13_1 : w12.cell? ⟨gb190, 1, none⟩ = some (.string ((rd_T88 l0 x7_1).f1)) := (bc_ BK190.1 1).trans rfl; have hfz13_0 := bF_ BK190.1 0; have hfz13_1 := bF_ BK190.1 1))
         go_ret
         exact ⟨q15_, q62_⟩
        ·rw [if_neg c9] at H; have c9b0 : (((rd_T88 l0 x7_1).f0).toList == ([99, 111, 110, 116, 101, 110, 116, 45, 108, 101, 110, 103, 116, 104] : List UInt8)) = false := beq_eq_false_iff_ne.mpr c9; have c9b1 : (((rd_T88 l0 x7_1).f0).toList != ([99, 111, 110, 116, 101, 110, 116, 45, 108, 101, 110, 103, 116, 104] : List UInt8)) = true := bne_iff_ne.mpr c9; by_cases c14 : ((rd_T88 l0 x7_1).f0).toList = ([116, 114, 97, 110, 115, 102, 101, 114, 45, 101, 110, 99, 111, 100, 105, 110, 103] : List UInt8)
         ·rw [if_pos c14] at H; have c14b0 : (((rd_T88 l0 x7_1).f0).toList == ([116, 114, 97, 110, 115, 102, 101, 114, 45, 101, 110, 99, 111, 100, 105, 110, 103] : List UInt8)) = true := beq_iff_eq.mpr c14; have c14b1 : (((rd_T88 l0 x7_1).f0).toList != ([116, 114, 97, 110, 115, 102, 101, 114, 45, 101, 110, 99, 111, 100, 105, 110, 103] : List UInt8)) = false := bne_eq_false_iff_eq.mpr c14; clear c14; obtain rfl := Option.some.inj H; have p189 : 0 ≤ (x7_1 : Int) := of_decide_eq_true q3_; have q189 : x7_1 < (l0.length : Int) := of_decide_eq_true q3_; obtain ⟨ad189, e189, hx189_0, hx189_1⟩ := at_T88 HR0.1 x7_1 p189 q189; cases e189
          replace hx189_0 := (HB.1.cell (World.block_lt_of_cell? w _ hx189_0)).trans hx189_0; replace hx189_1 := (HB.1.cell (World.block_lt_of_cell? w _ hx189_1)).trans hx189_1; replace p189 := eq_true p189; replace q189 := eq_true q189; go_wp2_with (first | ((with_reducible refine gate_dst (N := 4) rfl ?_); refine box_event ?hg (N := 4) ?hd (cs := #[.string (⟨#[]⟩ : ByteArray), .string (⟨#[]⟩ : ByteArray)]) (t := 88) ?hr ?_; (case hd => rfl); (case hg => rfl); (case hr => exact q26_); intro gb190 hg w15 hbox hb; have n0_ := aK (below_step q2_ hb); have n1_ := aK (hbox); have n2_ := aK ((q44_ : w.heap.size ≤ gb190)); have n3_ := aK ((q44_ : w.heap.size ≤ gb190)); clear HB; have HB := n0_; have BK190 := n1_; have GW190 := n2_; have GE190 := n3_; clear n0_ n1_ n2_ n3_; clear hb hbox hg; have hcz16_0 : w15.cell? ⟨gb190, 0, none⟩ = some (.string (⟨#[]⟩ : ByteArray)) := (bc_ BK190.1 0).trans rfl; have hcz16_1 : w15.cell? ⟨gb190, 1, none⟩ = some (.string (⟨#[]⟩ : ByteArray)) := (bc_ BK190.1 1).trans rfl; have hfz16_0 := bF_ BK190.1 0; have hfz16_1 := bF_ BK190.1 1) | ((with_reducible refine gate_callee (f := 138) rfl ?_); refine goesL_ (some 13) rfl rfl Tryz.func138 (by kernel_rfl) rfl #[.string ((rd_T88 l0 x7_1).f0)] rfl q1_ ?_; (with_reducible refine (impl_SmallName.calls k1 ((rd_T88 l0 x7_1).f0) true _ A5.1).mono ?_); rintro e w' ⟨rfl, ⟨nd, rfl⟩⟩; refine ⟨_, rfl, ?_⟩) | (go_at_call 139; (with_reducible refine (impl_valOk.calls k1 ((rd_T88 l0 x7_1).f1) true _ A7.1).mono ?_); rintro e w17 ⟨rfl, hb⟩; have n0_ := aK (bB_ (g := gb190) (o := .cells #[.string ((rd_T88 l0 x7_1).f0), .string ((rd_T88 l0 x7_1).f1)] 88 (0, 0)) (by (with_reducible repeat (first | refine bN_ ?_ _ | refine bD_ ?_ | refine bA_ ?_ _)); refine blk_put (cs := #[.string ((rd_T88 l0 x7_1).f0), .string (⟨#[]⟩ : ByteArray)]) ?_ 1 _ rfl; (with_reducible repeat (first | refine bN_ ?_ _ | refine bD_ ?_ | refine bA_ ?_ _)); refine blk_put (cs := #[.string (⟨#[]⟩ : ByteArray), .string (⟨#[]⟩ : ByteArray)]) ?_ 0 _ rfl; (with_reducible repeat (first | refine bN_ ?_ _ | refine bD_ ?_ | refine bA_ ?_ _)); exact BK190.1) hb); have n1_ := aK (below_step q62_ hb); clear BK190 HB; have BK190 := n0_; have HB := n1_; clear n0_ n1_; (try clear hb); (try clear hb2); (try clear hk); (try clear hi); have hcz18_0 : w17.cell? ⟨gb190, 0, none⟩ = some (.string ((rd_T88 l0 x7_1).f0)) := (bc_ BK190.1 0).trans rfl; have hcz18_1 : w17.cell? ⟨gb190, 1, none⟩ = some (.string ((rd_T88 l0 x7_1).f1)) := (bc_ BK190.1 1).trans rfl; have hfz18_0 := bF_ BK190.1 0; have hfz18_1 := bF_ BK190.1 1))
          go_ret
          exact ⟨q15_, q62_⟩
         ·rw [if_neg c14] at H; have c14b0 : (((rd_T88 l0 x7_1).f0).toList == ([116, 114, 97, 110, 115, 102, 101, 114, 45, 101, 110, 99, 111, 100, 105, 110, 103] : List UInt8)) = false := beq_eq_false_iff_ne.mpr c14; have c14b1 : (((rd_T88 l0 x7_1).f0).toList != ([116, 114, 97, 110, 115, 102, 101, 114, 45, 101, 110, 99, 111, 100, 105, 110, 103] : List UInt8)) = true := bne_iff_ne.mpr c14; have H' := aK H; clear H; have p189 : 0 ≤ (x7_1 : Int) := of_decide_eq_true q3_; have q189 : x7_1 < (l0.length : Int) := of_decide_eq_true q3_; obtain ⟨ad189, e189, hx189_0, hx189_1⟩ := at_T88 HR0.1 x7_1 p189 q189; cases e189
          replace hx189_0 := (HB.1.cell (World.block_lt_of_cell? w _ hx189_0)).trans hx189_0; replace hx189_1 := (HB.1.cell (World.block_lt_of_cell? w _ hx189_1)).trans hx189_1; replace p189 := eq_true p189; replace q189 := eq_true q189; go_wp2_with (first | ((with_reducible refine gate_dst (N := 4) rfl ?_); refine box_event ?hg (N := 4) ?hd (cs := #[.string (⟨#[]⟩ : ByteArray), .string (⟨#[]⟩ : ByteArray)]) (t := 88) ?hr ?_; (case hd => rfl); (case hg => rfl); (case hr => exact q26_); intro gb190 hg w19 hbox hb; have n0_ := aK (below_step q2_ hb); have n1_ := aK (hbox); have n2_ := aK ((q44_ : w.heap.size ≤ gb190)); have n3_ := aK ((q44_ : w.heap.size ≤ gb190)); clear HB; have HB := n0_; have BK190 := n1_; have GW190 := n2_; have GE190 := n3_; clear n0_ n1_ n2_ n3_; clear hb hbox hg; have hcz20_0 : w19.cell? ⟨gb190, 0, none⟩ = some (.string (⟨#[]⟩ : ByteArray)) := (bc_ BK190.1 0).trans rfl; have hcz20_1 : w19.cell? ⟨gb190, 1, none⟩ = some (.string (⟨#[]⟩ : ByteArray)) := (bc_ BK190.1 1).trans rfl; have hfz20_0 := bF_ BK190.1 0; have hfz20_1 := bF_ BK190.1 1) | ((with_reducible refine gate_callee (f := 138) rfl ?_); refine goesL_ (some 13) rfl rfl Tryz.func138 (by kernel_rfl) rfl #[.string ((rd_T88 l0 x7_1).f0)] rfl q1_ ?_; (with_reducible refine (impl_SmallName.calls k1 ((rd_T88 l0 x7_1).f0) true _ A5.1).mono ?_); rintro e w' ⟨rfl, ⟨nd, rfl⟩⟩; refine ⟨_, rfl, ?_⟩) | (go_at_call 139; (with_reducible refine (impl_valOk.calls k1 ((rd_T88 l0 x7_1).f1) true _ A7.1).mono ?_); rintro e w21 ⟨rfl, hb⟩; have n0_ := aK (bB_ (g := gb190) (o := .cells #[.string ((rd_T88 l0 x7_1).f0), .string ((rd_T88 l0 x7_1).f1)] 88 (0, 0)) (by (with_reducible repeat (first | refine bN_ ?_ _ | refine bD_ ?_ | refine bA_ ?_ _)); refine blk_put (cs := #[.string ((rd_T88 l0 x7_1).f0), .string (⟨#[]⟩ : ByteArray)]) ?_ 1 _ rfl; (with_reducible repeat (first | refine bN_ ?_ _ | refine bD_ ?_ | refine bA_ ?_ _)); refine blk_put (cs := #[.string (⟨#[]⟩ : ByteArray), .string (⟨#[]⟩ : ByteArray)]) ?_ 0 _ rfl; (with_reducible repeat (first | refine bN_ ?_ _ | refine bD_ ?_ | refine bA_ ?_ _)); exact BK190.1) hb); have n1_ := aK (below_step q62_ hb); clear BK190 HB; have BK190 := n0_; have HB := n1_; clear n0_ n1_; (try clear hb); (try clear hb2); (try clear hk); (try clear hi); have hcz22_0 : w21.cell? ⟨gb190, 0, none⟩ = some (.string ((rd_T88 l0 x7_1).f0)) := (bc_ BK190.1 0).trans rfl; have hcz22_1 : w21.cell? ⟨gb190, 1, none⟩ = some (.string ((rd_T88 l0 x7_1).f1)) := (bc_ BK190.1 1).trans rfl; have hfz22_0 := bF_ BK190.1 0; have hfz22_1 := bF_ BK190.1 1))
          go_roundg k1
          case measure => have := HK1.1; omega
          case rel => exact ⟨(wrap64 (x7_1 + 1)), q4_, H', ⟨q144_⟩, ⟨q62_⟩⟩
       ·replace c8 := Bool.eq_false_iff.mpr c8; subst c8; rw [if_neg (show ¬ (false = true) by decide)] at H; obtain rfl := Option.some.inj H; have p189 : 0 ≤ (x7_1 : Int) := of_decide_eq_true q3_; have q189 : x7_1 < (l0.length : Int) := of_decide_eq_true q3_; obtain ⟨ad189, e189, hx189_0, hx189_1⟩ := at_T88 HR0.1 x7_1 p189 q189; cases e189
        replace hx189_0 := (HB.1.cell (World.block_lt_of_cell? w _ hx189_0)).trans hx189_0; replace hx189_1 := (HB.1.cell (World.block_lt_of_cell? w _ hx189_1)).trans hx189_1; replace p189 := eq_true p189; replace q189 := eq_true q189; go_wp2_with (first | ((with_reducible refine gate_dst (N := 4) rfl ?_); refine box_event ?hg (N := 4) ?hd (cs := #[.string (⟨#[]⟩ : ByteArray), .string (⟨#[]⟩ : ByteArray)]) (t := 88) ?hr ?_; (case hd => rfl); (case hg => rfl); (case hr => exact q26_); intro gb190 hg w23 hbox hb; have n0_ := aK (below_step q2_ hb); have n1_ := aK (hbox); have n2_ := aK ((q44_ : w.heap.size ≤ gb190)); have n3_ := aK ((q44_ : w.heap.size ≤ gb190)); clear HB; have HB := n0_; have BK190 := n1_; have GW190 := n2_; have GE190 := n3_; clear n0_ n1_ n2_ n3_; clear hb hbox hg; have hcz24_0 : w23.cell? ⟨gb190, 0, none⟩ = some (.string (⟨#[]⟩ : ByteArray)) := (bc_ BK190.1 0).trans rfl; have hcz24_1 : w23.cell? ⟨gb190, 1, none⟩ = some (.string (⟨#[]⟩ : ByteArray)) := (bc_ BK190.1 1).trans rfl; have hfz24_0 := bF_ BK190.1 0; have hfz24_1 := bF_ BK190.1 1) | ((with_reducible refine gate_callee (f := 138) rfl ?_); refine goesL_ (some 13) rfl rfl Tryz.func138 (by kernel_rfl) rfl #[.string ((rd_T88 l0 x7_1).f0)] rfl q1_ ?_; (with_reducible refine (impl_SmallName.calls k1 ((rd_T88 l0 x7_1).f0) true _ A5.1).mono ?_); rintro e w' ⟨rfl, ⟨nd, rfl⟩⟩; refine ⟨_, rfl, ?_⟩) | (go_at_call 139; (with_reducible refine (impl_valOk.calls k1 ((rd_T88 l0 x7_1).f1) false _ A7.1).mono ?_); rintro e w25 ⟨rfl, hb⟩; have n0_ := aK (bB_ (g := gb190) (o := .cells #[.string ((rd_T88 l0 x7_1).f0), .string ((rd_T88 l0 x7_1).f1)] 88 (0, 0)) (by (with_reducible repeat (first | refine bN_ ?_ _ | refine bD_ ?_ | refine bA_ ?_ _)); refine blk_put (cs := #[.string ((rd_T88 l0 x7_1).f0), .string (⟨#[]⟩ : ByteArray)]) ?_ 1 _ rfl; (with_reducible repeat (first | refine bN_ ?_ _ | refine bD_ ?_ | refine bA_ ?_ _)); refine blk_put (cs := #[.string (⟨#[]⟩ : ByteArray), .string (⟨#[]⟩ : ByteArray)]) ?_ 0 _ rfl; (with_reducible repeat (first | refine bN_ ?_ _ | refine bD_ ?_ | refine bA_ ?_ _)); exact BK190.1) hb); have n1_ := aK (below_step q62_ hb); clear BK190 HB; have BK190 := n0_; have HB := n1_; clear n0_ n1_; (try clear hb); (try clear hb2); (try clear hk); (try clear hi)))
        go_ret
        exact ⟨q15_, q62_⟩
      ·replace c6 := Bool.eq_false_iff.mpr c6; subst c6; rw [if_neg (show ¬ (false = true) by decide)] at H; obtain rfl := Option.some.inj H; have p189 : 0 ≤ (x7_1 : Int) := of_decide_eq_true q3_; have q189 : x7_1 < (l0.length : Int) := of_decide_eq_true q3_; obtain ⟨ad189, e189, hx189_0, hx189_1⟩ := at_T88 HR0.1 x7_1 p189 q189; cases e189
       replace hx189_0 := (HB.1.cell (World.block_lt_of_cell? w _ hx189_0)).trans hx189_0; replace hx189_1 := (HB.1.cell (World.block_lt_of_cell? w _ hx189_1)).trans hx189_1; replace p189 := eq_true p189; replace q189 := eq_true q189; go_wp2_with (first | ((with_reducible refine gate_dst (N := 4) rfl ?_); refine box_event ?hg (N := 4) ?hd (cs := #[.string (⟨#[]⟩ : ByteArray), .string (⟨#[]⟩ : ByteArray)]) (t := 88) ?hr ?_; (case hd => rfl); (case hg => rfl); (case hr => exact q26_); intro gb190 hg w26 hbox hb; have n0_ := aK (below_step q2_ hb); have n1_ := aK (hbox); have n2_ := aK ((q44_ : w.heap.size ≤ gb190)); have n3_ := aK ((q44_ : w.heap.size ≤ gb190)); clear HB; have HB := n0_; have BK190 := n1_; have GW190 := n2_; have GE190 := n3_; clear n0_ n1_ n2_ n3_; clear hb hbox hg; have hcz27_0 : w26.cell? ⟨gb190, 0, none⟩ = some (.string (⟨#[]⟩ : ByteArray)) := (bc_ BK190.1 0).trans rfl; have hcz27_1 : w26.cell? ⟨gb190, 1, none⟩ = some (.string (⟨#[]⟩ : ByteArray)) := (bc_ BK190.1 1).trans rfl; have hfz27_0 := bF_ BK190.1 0; have hfz27_1 := bF_ BK190.1 1) | ((with_reducible refine gate_callee (f := 138) rfl ?_); refine goesL_ (some 13) rfl rfl Tryz.func138 (by kernel_rfl) rfl #[.string ((rd_T88 l0 x7_1).f0)] rfl q1_ ?_; (with_reducible refine (impl_SmallName.calls k1 ((rd_T88 l0 x7_1).f0) false _ A5.1).mono ?_); rintro e w' ⟨rfl, ⟨nd, rfl⟩⟩; refine ⟨_, rfl, ?_⟩))
       go_ret
       exact ⟨q15_, q62_⟩
     ·rw [if_neg c4] at H; exact absurd H (by simp)
    ·rw [if_neg c3] at H; exact absurd H (by simp)
   ·rw [if_neg c2] at H; have c2b0 : decide (x7_1 < (l0.length : Int)) = false := decide_eq_false c2; clear c2; obtain rfl := Option.some.inj H; go_wp2
    go_ret
    exact ⟨q15_, q2_⟩

def impl_RespOk.f (k : Nat) (a0_0 : Int) (l0_1 : List (S88)) (a0_2 : ByteArray) : Option (Bool) := (impl_in.f a0_0 100 599).bind fun t194 => (if t194 = true then ((impl_headsOk.f k l0_1).bind fun t195 => (if t195 = true then (some (decide ((a0_2.size : Int) ≤ 400))) else (some false))) else (some false))

theorem impl_RespOk.calls (k : Nat) (a0_0 : Int) (A0_1 : Option Addr) (c0_1 : Nat) (l0_1 : List (S88)) (a0_2 : ByteArray) (r : Bool) (w : World) (hr0_1 : Kd.C k88 w A0_1 l0_1.length l0_1) (hc0_1 : l0_1.length ≤ c0_1) (h : impl_RespOk.f k a0_0 l0_1 a0_2 = some r) :
  Calls Tryz.prog 27 #[.agg #[.int .i64 a0_0, .slice A0_1 l0_1.length c0_1, .string a0_2]] w fun e w' => e = .returned (.bool r) ∧ Below w.heap.size w w' := by
 have hu25 := Tryz.underlying25; have HR0_1 := aK hr0_1; have HC0_1 := aK hc0_1; clear hr0_1 hc0_1; have HB := aK (Below.refl w.heap.size w); have H : ((impl_in.f a0_0 100 599).bind fun t194 => (if t194 = true then ((impl_headsOk.f k l0_1).bind fun t195 => (if t195 = true then (some (decide ((a0_2.size : Int) ≤ 400))) else (some false))) else (some false))) = some r := h; clear h; replace H := Option.bind_eq_some_iff.mp H; obtain ⟨t194, A20, H⟩ := H; (try dsimp only at H); have A2 := aK A20; clear A20; by_cases c3 : t194 = true
 ·subst c3; rw [if_pos rfl] at H; replace H := Option.bind_eq_some_iff.mp H; obtain ⟨t195, A40, H⟩ := H; (try dsimp only at H); have A4 := aK A40; clear A40; by_cases c5 : t195 = true
  ·subst c5; rw [if_pos rfl] at H; obtain rfl := Option.some.inj H; go_enter Tryz.func27, Tryz.ntmps27
   go_wp2_with (first | ((with_reducible refine gate_dst (N := 1) rfl ?_); (try (refine gate_guard (by rfl) ?_; dsimp only)); refine box_event ?hg (N := 1) ?hd (cs := #[.int .i64 a0_0, .slice A0_1 l0_1.length c0_1, .string a0_2]) (t := 25) ?hr ?_; (case hd => rfl); (case hg => rfl); (case hr => exact q26_); intro gb193 hg w6 hbox hb; have n0_ := aK (below_step q2_ hb); have n1_ := aK (hbox); have n2_ := aK ((q44_ : w.heap.size ≤ gb193)); have n3_ := aK ((q44_ : w.heap.size ≤ gb193)); clear HB; have HB := n0_; have BK193 := n1_; have GW193 := n2_; have GE193 := n3_; clear n0_ n1_ n2_ n3_; clear hb hbox hg; have hcz7_0 : w6.cell? ⟨gb193, 0, none⟩ = some (.int .i64 a0_0) := (bc_ BK193.1 0).trans rfl; have hcz7_1 : w6.cell? ⟨gb193, 1, none⟩ = some (.slice A0_1 l0_1.length c0_1) := (bc_ BK193.1 1).trans rfl; have hcz7_2 : w6.cell? ⟨gb193, 2, none⟩ = some (.string a0_2) := (bc_ BK193.1 2).trans rfl; have hfz7_0 := bF_ BK193.1 0; have hfz7_1 := bF_ BK193.1 1; have hfz7_2 := bF_ BK193.1 2) | ((with_reducible refine gate_callee (f := 95) rfl ?_); refine goesL_ (some 5) rfl rfl Tryz.func95 (by kernel_rfl) rfl #[.int .i64 a0_0, .int .i64 100, .int .i64 599] rfl q1_ ?_; (with_reducible refine (impl_in.calls a0_0 100 599 true _ A2.1).mono ?_); rintro e w' ⟨rfl, ⟨nd, rfl⟩⟩; refine ⟨_, rfl, ?_⟩) | (go_at_call 96; (with_reducible refine (impl_headsOk.calls k _ _ l0_1 true _ ?side1 ?side2 A4.1).mono ?_); (case side1 => exact q224_); (case side2 => exact q235_); rintro e w8 ⟨rfl, hb⟩; have n0_ := aK (bB_ (g := gb193) (o := .cells #[.int .i64 a0_0, .slice A0_1 l0_1.length c0_1, .string a0_2] 25 (0, 0)) q245_ hb); have n1_ := aK (below_step q79_ hb); clear BK193 HB; have BK193 := n0_; have HB := n1_; clear n0_ n1_; (try clear hb); (try clear hb2); (try clear hk); (try clear hi); have hcz9_0 : w8.cell? ⟨gb193, 0, none⟩ = some (.int .i64 a0_0) := (bc_ BK193.1 0).trans rfl; have hcz9_1 : w8.cell? ⟨gb193, 1, none⟩ = some (.slice A0_1 l0_1.length c0_1) := (bc_ BK193.1 1).trans rfl; have hcz9_2 : w8.cell? ⟨gb193, 2, none⟩ = some (.string a0_2) := (bc_ BK193.1 2).trans rfl; have hfz9_0 := bF_ BK193.1 0; have hfz9_1 := bF_ BK193.1 1; have hfz9_2 := bF_ BK193.1 2))
   go_ret
   exact ⟨q15_, q79_⟩
  ·replace c5 := Bool.eq_false_iff.mpr c5; subst c5; rw [if_neg (show ¬ (false = true) by decide)] at H; obtain rfl := Option.some.inj H; go_enter Tryz.func27, Tryz.ntmps27
   go_wp2_with (first | ((with_reducible refine gate_dst (N := 1) rfl ?_); (try (refine gate_guard (by rfl) ?_; dsimp only)); refine box_event ?hg (N := 1) ?hd (cs := #[.int .i64 a0_0, .slice A0_1 l0_1.length c0_1, .string a0_2]) (t := 25) ?hr ?_; (case hd => rfl); (case hg => rfl); (case hr => exact q26_); intro gb193 hg w10 hbox hb; have n0_ := aK (below_step q2_ hb); have n1_ := aK (hbox); have n2_ := aK ((q44_ : w.heap.size ≤ gb193)); have n3_ := aK ((q44_ : w.heap.size ≤ gb193)); clear HB; have HB := n0_; have BK193 := n1_; have GW193 := n2_; have GE193 := n3_; clear n0_ n1_ n2_ n3_; clear hb hbox hg; have hcz11_0 : w10.cell? ⟨gb193, 0, none⟩ = some (.int .i64 a0_0) := (bc_ BK193.1 0).trans rfl; have hcz11_1 : w10.cell? ⟨gb193, 1, none⟩ = some (.slice A0_1 l0_1.length c0_1) := (bc_ BK193.1 1).trans rfl; have hcz11_2 : w10.cell? ⟨gb193, 2, none⟩ = some (.string a0_2) := (bc_ BK193.1 2).trans rfl; have hfz11_0 := bF_ BK193.1 0; have hfz11_1 := bF_ BK193.1 1; have hfz11_2 := bF_ BK193.1 2) | ((with_reducible refine gate_callee (f := 95) rfl ?_); refine goesL_ (some 5) rfl rfl Tryz.func95 (by kernel_rfl) rfl #[.int .i64 a0_0, .int .i64 100, .int .i64 599] rfl q1_ ?_; (with_reducible refine (impl_in.calls a0_0 100 599 true _ A2.1).mono ?_); rintro e w' ⟨rfl, ⟨nd, rfl⟩⟩; refine ⟨_, rfl, ?_⟩) | (go_at_call 96; (with_reducible refine (impl_headsOk.calls k _ _ l0_1 false _ ?side1 ?side2 A4.1).mono ?_); (case side1 => exact q224_); (case side2 => exact q235_); rintro e w12 ⟨rfl, hb⟩; have n0_ := aK (bB_ (g := gb193) (o := .cells #[.int .i64 a0_0, .slice A0_1 l0_1.length c0_1, .string a0_2] 25 (0, 0)) q245_ hb); have n1_ := aK (below_step q79_ hb); clear BK193 HB; have BK193 := n0_; have HB := n1_; clear n0_ n1_; (try clear hb); (try clear hb2); (try clear hk); (try clear hi)))
   go_ret
   exact ⟨q15_, q79_⟩
 ·replace c3 := Bool.eq_false_iff.mpr c3; subst c3; rw [if_neg (show ¬ (false = true) by decide)] at H; obtain rfl := Option.some.inj H; go_enter Tryz.func27, Tryz.ntmps27
  go_wp2_with (first | ((with_reducible refine gate_dst (N := 1) rfl ?_); (try (refine gate_guard (by rfl) ?_; dsimp only)); refine box_event ?hg (N := 1) ?hd (cs := #[.int .i64 a0_0, .slice A0_1 l0_1.length c0_1, .string a0_2]) (t := 25) ?hr ?_; (case hd => rfl); (case hg => rfl); (case hr => exact q26_); intro gb193 hg w13 hbox hb; have n0_ := aK (below_step q2_ hb); have n1_ := aK (hbox); have n2_ := aK ((q44_ : w.heap.size ≤ gb193)); have n3_ := aK ((q44_ : w.heap.size ≤ gb193)); clear HB; have HB := n0_; have BK193 := n1_; have GW193 := n2_; have GE193 := n3_; clear n0_ n1_ n2_ n3_; clear hb hbox hg; have hcz14_0 : w13.cell? ⟨gb193, 0, none⟩ = some (.int .i64 a0_0) := (bc_ BK193.1 0).trans rfl; have hcz14_1 : w13.cell? ⟨gb193, 1, none⟩ = some (.slice A0_1 l0_1.length c0_1) := (bc_ BK193.1 1).trans rfl; have hcz14_2 : w13.cell? ⟨gb193, 2, none⟩ = some (.string a0_2) := (bc_ BK193.1 2).trans rfl; have hfz14_0 := bF_ BK193.1 0; have hfz14_1 := bF_ BK193.1 1; have hfz14_2 := bF_ BK193.1 2) | ((with_reducible refine gate_callee (f := 95) rfl ?_); refine goesL_ (some 5) rfl rfl Tryz.func95 (by kernel_rfl) rfl #[.int .i64 a0_0, .int .i64 100, .int .i64 599] rfl q1_ ?_; (with_reducible refine (impl_in.calls a0_0 100 599 false _ A2.1).mono ?_); rintro e w' ⟨rfl, ⟨nd, rfl⟩⟩; refine ⟨_, rfl, ?_⟩))
  go_ret
  exact ⟨q15_, q79_⟩


def strconv_Itoa.f (a0 : Int) : Option ByteArray := if -9223372036854775808 ≤ a0 ∧ a0 ≤ 9223372036854775807 then some ⟨(Go.Lib.itoa a0).toArray⟩ else none
theorem strconv_Itoa.calls (a0 : Int) (r : ByteArray) (w : World) (h : strconv_Itoa.f a0 = some r) (hG : GOK w) :
  Calls Tryz.prog 135 #[.int .i64 a0] w fun e w' => e = .returned (.string r) ∧ Below w.heap.size w w' := by
 unfold strconv_Itoa.f at h
 split at h
 ·rename_i hs
  obtain rfl := Option.some.inj h; exact (Go.Proofs.YtfncjddolbghlaaGreatDoor.Shelf.Tryz.strconv_Itoa a0 hs.1 hs.2 w hG.pow10).mono fun e w' ⟨he, k, os, hw⟩ => ⟨he, by subst hw; exact Go.Lib.below_grow _ w (Nat.le_refl _) k os⟩
 ·cases h

def impl_NumText.f (a0 : Int) : Option (ByteArray) := (strconv_Itoa.f (mx a0 0)).bind fun t196 => (some t196)
theorem impl_NumText.calls (a0 : Int) (r : ByteArray) (w : World) (h : impl_NumText.f a0 = some r) (hG : GOK w) :
  Calls Tryz.prog 86 #[.int .i64 a0] w fun e w' => e = .returned (.string r) ∧ Below w.heap.size w w' := by
 have HB := aK (Below.refl w.heap.size w); have H : ((strconv_Itoa.f (mx a0 0)).bind fun t196 => (some t196)) = some r := h; clear h; obtain ⟨ji2, hji2⟩ : ∃ j_ : Int, (mx a0 0) = j_ := ⟨_, rfl⟩; replace H : ((strconv_Itoa.f (ji2)).bind fun t196 => (some t196)) = some r := by first | (rw [hji2] at H; exact H) | (simp only [hji2] at H ⊢; exact H)
 (try (have hji2l : 0 ≤ ji2 := by (rw [← hji2]; unfold mx; (repeat' split) <;> omega))); (try (have hji2m : 0 ≤ ji2 := by omega)); have hji2_ : (if a0 < 0 then 0 else a0) = ji2 := hji2; replace H := Option.bind_eq_some_iff.mp H; obtain ⟨t196, A30, H⟩ := H; (try dsimp only at H); have A3 := aK A30; clear A30; obtain rfl := Option.some.inj H; go_enter Tryz.func86, Tryz.ntmps86
 go_wp2_with (first | ((with_reducible refine gate_callee (f := 135) rfl ?_); refine goesL_ (some 5) rfl rfl Tryz.func135 (by kernel_rfl) rfl #[.int .i64 ji2] rfl (by (try simp only [List.map_toArray, List.map_cons, List.map_nil]); first | done | (simp only [hji2]; rfl) | rfl | (simp only [List.length_drop, List.length_take]; rfl)) ?_; (with_reducible refine (strconv_Itoa.calls ji2 t196 _ A3.1 ?side99).mono ?_); (case side99 => exact q184_); rintro e w4 ⟨rfl, hb⟩; refine ⟨_, rfl, ?_⟩; have n0_ := aK (below_step q2_ hb); clear HB; have HB := n0_; clear n0_; (try clear hb); (try clear hb2); (try clear hk); (try clear hi)))
 go_ret
 exact ⟨by first | rfl | (simp [errW_none, errW_some] <;> rfl) | (simp only [← hji2]; first | rfl | (simp [errW_none, errW_some] <;> rfl)) | (simp [*, errW_none, errW_some] <;> rfl), q2_⟩

def impl_headText.l0 : Nat → ByteArray → List (S88) → Int → Int → Option (ByteArray)
 | 0, _, _, _, _ => none
 | k + 1, x3, x6, x7, x8 => if x8 < x7 then (if 0 ≤ x8 then (if x8 < (x6.length : Int) then (if ((rd_T88 x6 x8).f0).size + 2 ≤ 9223372036854775807 then (if (((rd_T88 x6 x8).f0) ++ (⟨#[58, 32]⟩ : ByteArray)).size + ((rd_T88 x6 x8).f1).size ≤ 9223372036854775807 then (if ((((rd_T88 x6 x8).f0) ++ (⟨#[58, 32]⟩ : ByteArray)) ++ ((rd_T88 x6 x8).f1)).size + 2 ≤ 9223372036854775807 then (if x3.size + (((((rd_T88 x6 x8).f0) ++ (⟨#[58, 32]⟩ : ByteArray)) ++ ((rd_T88 x6 x8).f1)) ++ (⟨#[13, 10]⟩ : ByteArray)).size ≤ 9223372036854775807 then (impl_headText.l0 k (x3 ++ (((((rd_T88 x6 x8).f0) ++ (⟨#[58, 32]⟩ : ByteArray)) ++ ((rd_T88 x6 x8).f1)) ++ (⟨#[13, 10]⟩ : ByteArray))) x6 x7 (wrap64 (x8 + 1))) else (none)) else (none)) else (none)) else (none)) else (none)) else (none)) else (some x3)
def impl_headText.f (k : Nat) (l0 : List (S88)) : Option (ByteArray) := impl_headText.l0 k (⟨#[]⟩ : ByteArray) l0 (l0.length : Int) 0

theorem impl_headText.calls (k : Nat) (A0 : Option Addr) (c0 : Nat) (l0 : List (S88)) (r : ByteArray) (w : World) (hr0 : Kd.C k88 w A0 l0.length l0) (hc0 : l0.length ≤ c0) (h : impl_headText.f k l0 = some r) :
  Calls Tryz.prog 87 #[.slice A0 l0.length c0] w fun e w' => e = .returned (.string r) ∧ Below w.heap.size w w' := by
 have hu88 := Tryz.underlying88; have HR0 := aK hr0; have HC0 := aK hc0; clear hr0 hc0; have HB := aK (Below.refl w.heap.size w); have H : (impl_headText.l0 k (⟨#[]⟩ : ByteArray) l0 (l0.length : Int) 0) = some r := h; clear h; have H' := aK H; clear H; go_enter Tryz.func87, Tryz.ntmps87
 go_wp2
 go_loopg [3, 8] k (fun kq v3 v8 w' => ∃ (x3_1 : ByteArray) (x8_1 : Int), v3 = .string x3_1 ∧ v8 = .int .i64 x8_1 ∧ Aside0 (impl_headText.l0 kq x3_1 l0 (l0.length : Int) x8_1 = some r) ∧ Aside0 (kq ≤ k) ∧ Aside0 (Below w.heap.size w w'))
 case atStart => exact ⟨((⟨#[]⟩ : ByteArray)), (0), q4_, q4_, H', ⟨Nat.le_refl _⟩, ⟨q2_⟩⟩
 case round =>
  clear H'; obtain ⟨x3_1, x8_1, rfl, rfl, HA, HK1, HB⟩ := hrel; cases gk with
  | zero => exact absurd HA.1 (by simp [impl_headText.l0])
  | succ k1 =>
   have H := HA.1; clear HA; simp only [impl_headText.l0] at H; by_cases c2 : x8_1 < (l0.length : Int)
   ·rw [if_pos c2] at H; have c2b0 : decide (x8_1 < (l0.length : Int)) = true := decide_eq_true c2; clear c2; by_cases c3 : 0 ≤ x8_1
    ·rw [if_pos c3] at H; have c3b0 : decide (0 ≤ x8_1) = true := decide_eq_true c3; clear c3; by_cases c4 : x8_1 < (l0.length : Int)
     ·rw [if_pos c4] at H; have c4b0 : decide (x8_1 < (l0.length : Int)) = true := decide_eq_true c4; clear c4; by_cases c5 : ((rd_T88 l0 x8_1).f0).size + 2 ≤ 9223372036854775807
      ·rw [if_pos c5] at H; have c5b0 := eq_true c5; have c5b1 : decide (((rd_T88 l0 x8_1).f0).size + 2 ≤ 9223372036854775807) = true := decide_eq_true c5; try have c5b2 : (9223372036854775807 < ((rd_T88 l0 x8_1).f0).size + 2) = False := eq_false (Nat.not_lt.2 c5)
       by_cases c6 : (((rd_T88 l0 x8_1).f0) ++ (⟨#[58, 32]⟩ : ByteArray)).size + ((rd_T88 l0 x8_1).f1).size ≤ 9223372036854775807
       ·rw [if_pos c6] at H; have c6b0 := eq_true c6; have c6b1 : decide ((((rd_T88 l0 x8_1).f0) ++ (⟨#[58, 32]⟩ : ByteArray)).size + ((rd_T88 l0 x8_1).f1).size ≤ 9223372036854775807) = true := decide_eq_true c6; try have c6b2 : (9223372036854775807 < (((rd_T88 l0 x8_1).f0) ++ (⟨#[58, 32]⟩ : ByteArray)).size + ((rd_T88 l0 x8_1).f1).size) = False := eq_false (Nat.not_lt.2 c6)
        have c6s : ((rd_T88 l0 x8_1).f0).size + 2 + ((rd_T88 l0 x8_1).f1).size ≤ 9223372036854775807 := q213_; have c6s0 := eq_true c6s; have c6s1 : decide (((rd_T88 l0 x8_1).f0).size + 2 + ((rd_T88 l0 x8_1).f1).size ≤ 9223372036854775807) = true := decide_eq_true c6s; have c6s2 : (9223372036854775807 < ((rd_T88 l0 x8_1).f0).size + 2 + ((rd_T88 l0 x8_1).f1).size) = False := eq_false (Nat.not_lt.2 c6s); by_cases c7 : ((((rd_T88 l0 x8_1).f0) ++ (⟨#[58, 32]⟩ : ByteArray)) ++ ((rd_T88 l0 x8_1).f1)).size + 2 ≤ 9223372036854775807
        ·rw [if_pos c7] at H; have c7b0 := eq_true c7; have c7b1 : decide (((((rd_T88 l0 x8_1).f0) ++ (⟨#[58, 32]⟩ : ByteArray)) ++ ((rd_T88 l0 x8_1).f1)).size + 2 ≤ 9223372036854775807) = true := decide_eq_true c7; try have c7b2 : (9223372036854775807 < ((((rd_T88 l0 x8_1).f0) ++ (⟨#[58, 32]⟩ : ByteArray)) ++ ((rd_T88 l0 x8_1).f1)).size + 2) = False := eq_false (Nat.not_lt.2 c7)
         have c7s : ((rd_T88 l0 x8_1).f0).size + 2 + ((rd_T88 l0 x8_1).f1).size + 2 ≤ 9223372036854775807 := by have h_ := c7; simp only [ByteArray.size_append] at h_; exact h_
         have c7s0 := eq_true c7s; have c7s1 : decide (((rd_T88 l0 x8_1).f0).size + 2 + ((rd_T88 l0 x8_1).f1).size + 2 ≤ 9223372036854775807) = true := decide_eq_true c7s; have c7s2 : (9223372036854775807 < ((rd_T88 l0 x8_1).f0).size + 2 + ((rd_T88 l0 x8_1).f1).size + 2) = False := eq_false (Nat.not_lt.2 c7s); by_cases c8 : x3_1.size + (((((rd_T88 l0 x8_1).f0) ++ (⟨#[58, 32]⟩ : ByteArray)) ++ ((rd_T88 l0 x8_1).f1)) ++ (⟨#[13, 10]⟩ : ByteArray)).size ≤ 9223372036854775807
         ·rw [if_pos c8] at H; have c8b0 := eq_true c8; have c8b1 : decide (x3_1.size + (((((rd_T88 l0 x8_1).f0) ++ (⟨#[58, 32]⟩ : ByteArray)) ++ ((rd_T88 l0 x8_1).f1)) ++ (⟨#[13, 10]⟩ : ByteArray)).size ≤ 9223372036854775807) = true := decide_eq_true c8; try have c8b2 : (9223372036854775807 < x3_1.size + (((((rd_T88 l0 x8_1).f0) ++ (⟨#[58, 32]⟩ : ByteArray)) ++ ((rd_T88 l0 x8_1).f1)) ++ (⟨#[13, 10]⟩ : ByteArray)).size) = False := eq_false (Nat.not_lt.2 c8)
          have c8s : x3_1.size + (((rd_T88 l0 x8_1).f0).size + 2 + ((rd_T88 l0 x8_1).f1).size + 2) ≤ 9223372036854775807 := q239_; have c8s0 := eq_true c8s; have c8s1 : decide (x3_1.size + (((rd_T88 l0 x8_1).f0).size + 2 + ((rd_T88 l0 x8_1).f1).size + 2) ≤ 9223372036854775807) = true := decide_eq_true c8s; have c8s2 : (9223372036854775807 < x3_1.size + (((rd_T88 l0 x8_1).f0).size + 2 + ((rd_T88 l0 x8_1).f1).size + 2)) = False := eq_false (Nat.not_lt.2 c8s); have H' := aK H; clear H; have p197 : 0 ≤ (x8_1 : Int) := of_decide_eq_true q3_; have q197 : x8_1 < (l0.length : Int) := of_decide_eq_true q3_; obtain ⟨ad197, e197, hx197_0, hx197_1⟩ := at_T88 HR0.1 x8_1 p197 q197; cases e197
          replace hx197_0 := (HB.1.cell (World.block_lt_of_cell? w _ hx197_0)).trans hx197_0; replace hx197_1 := (HB.1.cell (World.block_lt_of_cell? w _ hx197_1)).trans hx197_1; replace p197 := eq_true p197; replace q197 := eq_true q197; go_wp2_with (first | ((with_reducible refine gate_dst (N := 5) rfl ?_); refine box_event ?hg (N := 5) ?hd (cs := #[.string (⟨#[]⟩ : ByteArray), .string (⟨#[]⟩ : ByteArray)]) (t := 88) ?hr ?_; (case hd => rfl); (case hg => rfl); (case hr => exact q26_); intro gb198 hg w9 hbox hb; have n0_ := aK (below_step q2_ hb); have n1_ := aK (hbox); have n2_ := aK ((q44_ : w.heap.size ≤ gb198)); have n3_ := aK ((q44_ : w.heap.size ≤ gb198)); clear HB; have HB := n0_; have BK198 := n1_; have GW198 := n2_; have GE198 := n3_; clear n0_ n1_ n2_ n3_; clear hb hbox hg; have hcz10_0 : w9.cell? ⟨gb198, 0, none⟩ = some (.string (⟨#[]⟩ : ByteArray)) := (bc_ BK198.1 0).trans rfl; have hcz10_1 : w9.cell? ⟨gb198, 1, none⟩ = some (.string (⟨#[]⟩ : ByteArray)) := (bc_ BK198.1 1).trans rfl; have hfz10_0 := bF_ BK198.1 0; have hfz10_1 := bF_ BK198.1 1))
          go_roundg k1
          case measure => have := HK1.1; omega
          case rel => exact ⟨(x3_1 ++ (((((rd_T88 l0 x8_1).f0) ++ (⟨#[58, 32]⟩ : ByteArray)) ++ ((rd_T88 l0 x8_1).f1)) ++ (⟨#[13, 10]⟩ : ByteArray))), (wrap64 (x8_1 + 1)), q4_, q4_, H', ⟨q144_⟩, ⟨by repeat (first | (with_reducible first | exact HB.1 | apply aB_ | apply pN_ | apply dB_ | refine sB_ ?_ GE198.1) | exact HB.1)⟩⟩
         ·rw [if_neg c8] at H; exact absurd H (by simp)
        ·rw [if_neg c7] at H; exact absurd H (by simp)
       ·rw [if_neg c6] at H; exact absurd H (by simp)
      ·rw [if_neg c5] at H; exact absurd H (by simp)
     ·rw [if_neg c4] at H; exact absurd H (by simp)
    ·rw [if_neg c3] at H; exact absurd H (by simp)
   ·rw [if_neg c2] at H; have c2b0 : decide (x8_1 < (l0.length : Int)) = false := decide_eq_false c2; clear c2; obtain rfl := Option.some.inj H; go_wp2
    go_ret
    exact ⟨q15_, q2_⟩

def impl_lengthText.f (a0 : ByteArray) : Option (ByteArray) := (impl_NumText.f (a0.size : Int)).bind fun t199 => (if 16 + t199.size ≤ 9223372036854775807 then (if ((⟨#[99, 111, 110, 116, 101, 110, 116, 45, 108, 101, 110, 103, 116, 104, 58, 32]⟩ : ByteArray) ++ t199).size + 2 ≤ 9223372036854775807 then (some (((⟨#[99, 111, 110, 116, 101, 110, 116, 45, 108, 101, 110, 103, 116, 104, 58, 32]⟩ : ByteArray) ++ t199) ++ (⟨#[13, 10]⟩ : ByteArray))) else (none)) else (none))
theorem impl_lengthText.calls (a0 : ByteArray) (r : ByteArray) (w : World) (h : impl_lengthText.f a0 = some r) (hG : GOK w) :
  Calls Tryz.prog 88 #[.string a0] w fun e w' => e = .returned (.string r) ∧ Below w.heap.size w w' := by
 have HB := aK (Below.refl w.heap.size w); have H : ((impl_NumText.f (a0.size : Int)).bind fun t199 => (if 16 + t199.size ≤ 9223372036854775807 then (if ((⟨#[99, 111, 110, 116, 101, 110, 116, 45, 108, 101, 110, 103, 116, 104, 58, 32]⟩ : ByteArray) ++ t199).size + 2 ≤ 9223372036854775807 then (some (((⟨#[99, 111, 110, 116, 101, 110, 116, 45, 108, 101, 110, 103, 116, 104, 58, 32]⟩ : ByteArray) ++ t199) ++ (⟨#[13, 10]⟩ : ByteArray))) else (none)) else (none))) = some r := h; clear h; replace H := Option.bind_eq_some_iff.mp H; obtain ⟨t199, A20, H⟩ := H; (try dsimp only at H); have A2 := aK A20; clear A20; by_cases c3 : 16 + t199.size ≤ 9223372036854775807
 ·rw [if_pos c3] at H; have c3b0 := eq_true c3; have c3b1 : decide (16 + t199.size ≤ 9223372036854775807) = true := decide_eq_true c3; try have c3b2 : (9223372036854775807 < 16 + t199.size) = False := eq_false (Nat.not_lt.2 c3)
  by_cases c4 : ((⟨#[99, 111, 110, 116, 101, 110, 116, 45, 108, 101, 110, 103, 116, 104, 58, 32]⟩ : ByteArray) ++ t199).size + 2 ≤ 9223372036854775807
  ·rw [if_pos c4] at H; have c4b0 := eq_true c4; have c4b1 : decide (((⟨#[99, 111, 110, 116, 101, 110, 116, 45, 108, 101, 110, 103, 116, 104, 58, 32]⟩ : ByteArray) ++ t199).size + 2 ≤ 9223372036854775807) = true := decide_eq_true c4; try have c4b2 : (9223372036854775807 < ((⟨#[99, 111, 110, 116, 101, 110, 116, 45, 108, 101, 110, 103, 116, 104, 58, 32]⟩ : ByteArray) ++ t199).size + 2) = False := eq_false (Nat.not_lt.2 c4)
   have c4s : 16 + t199.size + 2 ≤ 9223372036854775807 := by have h_ := c4; simp only [ByteArray.size_append] at h_; exact h_
   have c4s0 := eq_true c4s; have c4s1 : decide (16 + t199.size + 2 ≤ 9223372036854775807) = true := decide_eq_true c4s; have c4s2 : (9223372036854775807 < 16 + t199.size + 2) = False := eq_false (Nat.not_lt.2 c4s); obtain rfl := Option.some.inj H; go_enter Tryz.func88, Tryz.ntmps88
   go_wp2_with (first | ((with_reducible refine gate_callee (f := 86) rfl ?_); refine goesL_ (some 5) rfl rfl Tryz.func86 (by kernel_rfl) rfl #[.int .i64 (a0.size : Int)] rfl q1_ ?_; (with_reducible refine (impl_NumText.calls (a0.size : Int) t199 _ A2.1 ?side99).mono ?_); (case side99 => exact q184_); rintro e w5 ⟨rfl, hb⟩; refine ⟨_, rfl, ?_⟩; have n0_ := aK (below_step q2_ hb); clear HB; have HB := n0_; clear n0_; (try clear hb); (try clear hb2); (try clear hk); (try clear hi)))
   go_ret
   exact ⟨q15_, q2_⟩
  ·rw [if_neg c4] at H; exact absurd H (by simp)
 ·rw [if_neg c3] at H; exact absurd H (by simp)

end Go.Proofs.YtfncjddolbghlaaGreatDoor.GFnResps
