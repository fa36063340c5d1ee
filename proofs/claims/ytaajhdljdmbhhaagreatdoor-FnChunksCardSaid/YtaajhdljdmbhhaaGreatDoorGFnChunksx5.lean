-- by gprint.py (this session's program over the kit's print.py) (a twelfth state) out of the translation. Not trusted: Lean checks it.
import Derived.Test.YtaajhdljdmbhhaaGreatDoorGFnChunksx0
import Derived.Test.YtaajhdljdmbhhaaGreatDoorGFnChunksx4
namespace Go.Proofs.YtaajhdljdmbhhaaGreatDoor.GFnChunks
open Go.RowKit Go.Proofs.YtaajhdljdmbhhaaGreatDoorW.PrintWords Go.Proofs.YtaajhdljdmbhhaaGreatDoorW.PrintLast Go.Proofs.YtaajhdljdmbhhaaGreatDoorW.PrintMore
attribute [local go_sem] max2_int min2_int max_two min_two max_three min_three max_four min_four   -- for this text's walks alone
set_option linter.unusedVariables false
set_option linter.unusedSimpArgs false
set_option maxRecDepth 100000
set_option maxHeartbeats 8000000

def impl_lineOk.l0 : Nat → ByteArray → ByteArray → Int → Option (Bool)
 | 0, _, _, _ => none
 | k + 1, x0, x1, x5 => if x5 < (x0.size : Int) then (if 0 ≤ x5 then ((impl_isLarge.f (bt x0 x5)).bind fun t280 => (if t280 = true then (impl_lineOk.l0 k x0 x1 (wrap64 (x5 + 1))) else (some false))) else (none)) else ((impl_in.f (x0.size : Int) 1 9).bind fun t281 => (if t281 = true then ((impl_in.f (x1.size : Int) 1 80).bind fun t282 => (if t282 = true then ((impl_Plain.f k x1).bind fun t283 => (if t283 = true then ((strings_Contains.f x1 (⟨#[32]⟩ : BA)).bind fun t284 => (some (!t284))) else (some false))) else (some false))) else (some false)))
def impl_lineOk.f (k : Nat) (a0 : ByteArray) (a1 : ByteArray) : Option (Bool) := impl_lineOk.l0 k a0 a1 0

theorem impl_lineOk.calls (k : Nat) (a0 : ByteArray) (a1 : ByteArray) (r : Bool) (w : World) (h : impl_lineOk.f k a0 a1 = some r) :
  Calls Tryz.prog 91 #[.string a0, .string a1] w fun e w' => e = .returned (.bool r) ∧ Drawn0 w w' := by
 have H : (impl_lineOk.l0 k a0 a1 0) = some r := h; clear h; have H' := aK H; clear H; go_enter Tryz.func91, Tryz.ntmps91
 go_wp2
 go_loopg [5] k (fun kq v5 w' => ∃ (x5_1 : Int), v5 = .int .i64 x5_1 ∧ Aside0 (impl_lineOk.l0 kq a0 a1 x5_1 = some r) ∧ Aside0 (kq ≤ k) ∧ Drawn0 w w')
 case atStart => exact ⟨(0), q3_, H', ⟨Nat.le_refl _⟩, q10_⟩
 case round =>
  clear H'; (try clear p2); obtain ⟨x5_1, rfl, HA, HK1, ⟨m1, rfl⟩⟩ := hrel; cases gk with
  | zero => exact absurd HA.1 (by simp [impl_lineOk.l0])
  | succ k1 =>
   have H := HA.1; clear HA; simp only [impl_lineOk.l0] at H; by_cases c3 : x5_1 < (a0.size : Int)
   ·rw [if_pos c3] at H; have c3b0 := decide_eq_true c3; clear c3; by_cases c4 : 0 ≤ x5_1
    ·rw [if_pos c4] at H; have c4b0 := decide_eq_true c4; clear c4; replace H := oB H; obtain ⟨t280, A6, H⟩ := H; (try dsimp only at H); have HC7 := aK H; clear H; have p5 : 0 ≤ (x5_1 : Int) := of_decide_eq_true q4_; have q5 : x5_1 < (a0.size : Int) := of_decide_eq_true q4_; have hx5 := bt_at a0 x5_1; replace p5 := eq_true p5; replace q5 := eq_true q5; go_upto_if 16 with (first | ((with_reducible refine gate_callee (f := 113) rfl ?_); refine goesL_ (some 15) rfl rfl Tryz.func113 (by kernel_rfl) rfl #[.int .u8 (bt a0 x5_1)] rfl q2_ ?_; (with_reducible refine (impl_isLarge.calls (bt a0 x5_1) t280 _ A6.1).mono ?_); rintro e w' ⟨rfl, ⟨nd, rfl⟩⟩; refine ⟨_, rfl, ?_⟩))
     (try simp only [Act.put, sI, sZ, sS]); have H := HC7.1; clear HC7; by_cases c8 : t280 = true
     ·subst c8; rw [if_pos rfl] at H; have H' := aK H; clear H; go_wp2
      go_roundg k1
      case measure => have := HK1.1; omega
      case rel => exact ⟨(wrap64 (x5_1 + 1)), q3_, H', ⟨q82_⟩, q10_⟩
     ·replace c8 := Bool.eq_false_iff.mpr c8; subst c8; rw [if_neg (show ¬ (false = true) by decide)] at H; obtain rfl := Option.some.inj H; go_wp2
      go_ret
      exact ⟨q3_, q10_⟩
    ·rw [if_neg c4] at H; exact absurd H (by simp)
   ·rw [if_neg c3] at H; have c3b0 := decide_eq_false c3; clear c3; replace H := oB H; obtain ⟨t281, A9, H⟩ := H; (try dsimp only at H); by_cases c10 : t281 = true
    ·subst c10; rw [if_pos rfl] at H; replace H := oB H; obtain ⟨t282, A11, H⟩ := H; (try dsimp only at H); by_cases c12 : t282 = true
     ·subst c12; rw [if_pos rfl] at H; replace H := oB H; obtain ⟨t283, A13, H⟩ := H; (try dsimp only at H); by_cases c14 : t283 = true
      ·subst c14; rw [if_pos rfl] at H; replace H := oB H; obtain ⟨t284, A15, H⟩ := H; (try dsimp only at H); obtain rfl := Option.some.inj H; go_wp2_with (first | ((with_reducible refine gate_callee (f := 80) rfl ?_); refine goesL_ (some 19) rfl rfl Tryz.func80 (by kernel_rfl) rfl #[.int .i64 (a0.size : Int), .int .i64 1, .int .i64 9] rfl q2_ ?_; (with_reducible refine (impl_in.calls (a0.size : Int) 1 9 true _ A9.1).mono ?_); rintro e w' ⟨rfl, ⟨nd, rfl⟩⟩; refine ⟨_, rfl, ?_⟩) | (go_at_call 80; (with_reducible refine (impl_in.calls (a1.size : Int) 1 80 true _ A11.1).mono ?_); rintro e w' ⟨rfl, ⟨nd, rfl⟩⟩) | (go_at_call 114; (with_reducible refine (impl_Plain.calls k1 a1 true _ A13.1).mono ?_); rintro e w' ⟨rfl, ⟨nd, rfl⟩⟩) | (go_at_call 115; (with_reducible refine (strings_Contains.calls a1 (⟨#[32]⟩ : BA) t284 _ A15.1).mono ?_); rintro e w' ⟨rfl, ⟨nd, rfl⟩⟩))
       go_ret
       exact ⟨q3_, q10_⟩
      ·replace c14 := Bool.eq_false_iff.mpr c14; subst c14; rw [if_neg (show ¬ (false = true) by decide)] at H; obtain rfl := Option.some.inj H; go_wp2_with (first | ((with_reducible refine gate_callee (f := 80) rfl ?_); refine goesL_ (some 19) rfl rfl Tryz.func80 (by kernel_rfl) rfl #[.int .i64 (a0.size : Int), .int .i64 1, .int .i64 9] rfl q2_ ?_; (with_reducible refine (impl_in.calls (a0.size : Int) 1 9 true _ A9.1).mono ?_); rintro e w' ⟨rfl, ⟨nd, rfl⟩⟩; refine ⟨_, rfl, ?_⟩) | (go_at_call 80; (with_reducible refine (impl_in.calls (a1.size : Int) 1 80 true _ A11.1).mono ?_); rintro e w' ⟨rfl, ⟨nd, rfl⟩⟩) | (go_at_call 114; (with_reducible refine (impl_Plain.calls k1 a1 false _ A13.1).mono ?_); rintro e w' ⟨rfl, ⟨nd, rfl⟩⟩))
       go_ret
       exact ⟨q3_, q10_⟩
     ·replace c12 := Bool.eq_false_iff.mpr c12; subst c12; rw [if_neg (show ¬ (false = true) by decide)] at H; obtain rfl := Option.some.inj H; go_wp2_with (first | ((with_reducible refine gate_callee (f := 80) rfl ?_); refine goesL_ (some 19) rfl rfl Tryz.func80 (by kernel_rfl) rfl #[.int .i64 (a0.size : Int), .int .i64 1, .int .i64 9] rfl q2_ ?_; (with_reducible refine (impl_in.calls (a0.size : Int) 1 9 true _ A9.1).mono ?_); rintro e w' ⟨rfl, ⟨nd, rfl⟩⟩; refine ⟨_, rfl, ?_⟩) | (go_at_call 80; (with_reducible refine (impl_in.calls (a1.size : Int) 1 80 false _ A11.1).mono ?_); rintro e w' ⟨rfl, ⟨nd, rfl⟩⟩))
      go_ret
      exact ⟨q3_, q10_⟩
    ·replace c10 := Bool.eq_false_iff.mpr c10; subst c10; rw [if_neg (show ¬ (false = true) by decide)] at H; obtain rfl := Option.some.inj H; go_wp2_with (first | ((with_reducible refine gate_callee (f := 80) rfl ?_); refine goesL_ (some 19) rfl rfl Tryz.func80 (by kernel_rfl) rfl #[.int .i64 (a0.size : Int), .int .i64 1, .int .i64 9] rfl q2_ ?_; (with_reducible refine (impl_in.calls (a0.size : Int) 1 9 false _ A9.1).mono ?_); rintro e w' ⟨rfl, ⟨nd, rfl⟩⟩; refine ⟨_, rfl, ?_⟩))
     go_ret
     exact ⟨q3_, q10_⟩

def impl_isSmall.f (a0 : Int) : Option (Bool) := if a0 ≥ 97 then (some (decide (a0 ≤ 122))) else (some false)
theorem impl_isSmall.calls (a0 : Int) (r : Bool) (w : World) (h : impl_isSmall.f a0 = some r) :
  Calls Tryz.prog 143 #[.int .u8 a0] w fun e w' => e = .returned (.bool r) ∧ Drawn0 w w' := by
 have H : (if a0 ≥ 97 then (some (decide (a0 ≤ 122))) else (some false)) = some r := h; clear h; by_cases c2 : a0 ≥ 97
 ·rw [if_pos c2] at H; have c2b0 : decide (97 ≤ a0) = true := decide_eq_true c2; clear c2; obtain rfl := Option.some.inj H; go_enter Tryz.func143, Tryz.ntmps143
  go_wp2
  go_ret
  exact ⟨q3_, q10_⟩
 ·rw [if_neg c2] at H; have c2b0 : decide (97 ≤ a0) = false := decide_eq_false c2; clear c2; obtain rfl := Option.some.inj H; go_enter Tryz.func143, Tryz.ntmps143
  go_wp2
  go_ret
  exact ⟨q3_, q10_⟩

def impl_isDigit.f (a0 : Int) : Option (Bool) := if a0 ≥ 48 then (some (decide (a0 ≤ 57))) else (some false)
theorem impl_isDigit.calls (a0 : Int) (r : Bool) (w : World) (h : impl_isDigit.f a0 = some r) :
  Calls Tryz.prog 144 #[.int .u8 a0] w fun e w' => e = .returned (.bool r) ∧ Drawn0 w w' := by
 have H : (if a0 ≥ 48 then (some (decide (a0 ≤ 57))) else (some false)) = some r := h; clear h; by_cases c2 : a0 ≥ 48
 ·rw [if_pos c2] at H; have c2b0 : decide (48 ≤ a0) = true := decide_eq_true c2; clear c2; obtain rfl := Option.some.inj H; go_enter Tryz.func144, Tryz.ntmps144
  go_wp2
  go_ret
  exact ⟨q3_, q10_⟩
 ·rw [if_neg c2] at H; have c2b0 : decide (48 ≤ a0) = false := decide_eq_false c2; clear c2; obtain rfl := Option.some.inj H; go_enter Tryz.func144, Tryz.ntmps144
  go_wp2
  go_ret
  exact ⟨q3_, q10_⟩

def impl_SmallName.l0 : Nat → ByteArray → Int → Option (Bool)
 | 0, _, _ => none
 | k + 1, x0, x3 => if x3 < (x0.size : Int) then (if 0 ≤ x3 then ((impl_isSmall.f (bt x0 x3)).bind fun t286 => (if t286 = true then (impl_SmallName.l0 k x0 (wrap64 (x3 + 1))) else (if x3 = 0 then (some false) else ((impl_isDigit.f (bt x0 x3)).bind fun t287 => (if t287 = true then (impl_SmallName.l0 k x0 (wrap64 (x3 + 1))) else (if (bt x0 x3) = 45 then (impl_SmallName.l0 k x0 (wrap64 (x3 + 1))) else (some false))))))) else (none)) else ((impl_in.f (x0.size : Int) 1 20).bind fun t285 => (some t285))
def impl_SmallName.f (k : Nat) (a0 : ByteArray) : Option (Bool) := impl_SmallName.l0 k a0 0

theorem impl_SmallName.calls (k : Nat) (a0 : ByteArray) (r : Bool) (w : World) (h : impl_SmallName.f k a0 = some r) :
  Calls Tryz.prog 116 #[.string a0] w fun e w' => e = .returned (.bool r) ∧ Drawn0 w w' := by
 have H : (impl_SmallName.l0 k a0 0) = some r := h; clear h; have H' := aK H; clear H; go_enter Tryz.func116, Tryz.ntmps116
 go_wp2
 go_loopg [3] k (fun kq v3 w' => ∃ (x3_1 : Int), v3 = .int .i64 x3_1 ∧ Aside0 (impl_SmallName.l0 kq a0 x3_1 = some r) ∧ Aside0 (kq ≤ k) ∧ Drawn0 w w')
 case atStart => exact ⟨(0), q3_, H', ⟨Nat.le_refl _⟩, q10_⟩
 case round =>
  clear H'; (try clear c1); obtain ⟨x3_1, rfl, HA, HK1, ⟨m1, rfl⟩⟩ := hrel; cases gk with
  | zero => exact absurd HA.1 (by simp [impl_SmallName.l0])
  | succ k1 =>
   have H := HA.1; clear HA; simp only [impl_SmallName.l0] at H; by_cases c2 : x3_1 < (a0.size : Int)
   ·rw [if_pos c2] at H; have c2b0 := decide_eq_true c2; clear c2; by_cases c3 : 0 ≤ x3_1
    ·rw [if_pos c3] at H; have c3b0 := decide_eq_true c3; clear c3; replace H := oB H; obtain ⟨t286, A5, H⟩ := H; (try dsimp only at H); by_cases c6 : t286 = true
     ·subst c6; rw [if_pos rfl] at H; have H' := aK H; clear H; have p4 : 0 ≤ (x3_1 : Int) := of_decide_eq_true q4_; have q4 : x3_1 < (a0.size : Int) := of_decide_eq_true q4_; have hx4 := bt_at a0 x3_1; replace p4 := eq_true p4; replace q4 := eq_true q4; go_wp2_with (first | ((with_reducible refine gate_callee (f := 143) rfl ?_); refine goesL_ (some 13) rfl rfl Tryz.func143 (by kernel_rfl) rfl #[.int .u8 (bt a0 x3_1)] rfl q2_ ?_; (with_reducible refine (impl_isSmall.calls (bt a0 x3_1) true _ A5.1).mono ?_); rintro e w' ⟨rfl, ⟨nd, rfl⟩⟩; refine ⟨_, rfl, ?_⟩))
      go_roundg k1
      case measure => have := HK1.1; omega
      case rel => exact ⟨(wrap64 (x3_1 + 1)), q3_, H', ⟨q82_⟩, q10_⟩
     ·replace c6 := Bool.eq_false_iff.mpr c6; subst c6; rw [if_neg (show ¬ (false = true) by decide)] at H; by_cases c7 : x3_1 = 0
      ·rw [if_pos c7] at H; have c7b0 := beq_iff_eq.mpr c7; have c7b1 : (x3_1 != 0) = false := bne_eq_false_iff_eq.mpr c7; clear c7; obtain rfl := Option.some.inj H; have p4 : 0 ≤ (x3_1 : Int) := of_decide_eq_true q4_; have q4 : x3_1 < (a0.size : Int) := of_decide_eq_true q4_; have hx4 := bt_at a0 x3_1; replace p4 := eq_true p4; replace q4 := eq_true q4; go_wp2_with (first | ((with_reducible refine gate_callee (f := 143) rfl ?_); refine goesL_ (some 13) rfl rfl Tryz.func143 (by kernel_rfl) rfl #[.int .u8 (bt a0 x3_1)] rfl q2_ ?_; (with_reducible refine (impl_isSmall.calls (bt a0 x3_1) false _ A5.1).mono ?_); rintro e w' ⟨rfl, ⟨nd, rfl⟩⟩; refine ⟨_, rfl, ?_⟩))
       go_ret
       exact ⟨q3_, q10_⟩
      ·rw [if_neg c7] at H; have c7b0 := beq_eq_false_iff_ne.mpr c7; have c7b1 : (x3_1 != 0) = true := bne_iff_ne.mpr c7; replace H := oB H; obtain ⟨t287, A9, H⟩ := H; (try dsimp only at H); by_cases c10 : t287 = true
       ·subst c10; rw [if_pos rfl] at H; have H' := aK H; clear H; have p4 : 0 ≤ (x3_1 : Int) := of_decide_eq_true q4_; have q4 : x3_1 < (a0.size : Int) := of_decide_eq_true q4_; have hx4 := bt_at a0 x3_1; replace p4 := eq_true p4; replace q4 := eq_true q4; go_wp2_with (first | ((with_reducible refine gate_callee (f := 143) rfl ?_); refine goesL_ (some 13) rfl rfl Tryz.func143 (by kernel_rfl) rfl #[.int .u8 (bt a0 x3_1)] rfl q2_ ?_; (with_reducible refine (impl_isSmall.calls (bt a0 x3_1) false _ A5.1).mono ?_); rintro e w' ⟨rfl, ⟨nd, rfl⟩⟩; refine ⟨_, rfl, ?_⟩; have p8 : 0 ≤ (x3_1 : Int) := of_decide_eq_true q4_; have q8 : x3_1 < (a0.size : Int) := of_decide_eq_true q4_; have hx8 := bt_at a0 x3_1; replace p8 := eq_true p8; replace q8 := eq_true q8) | (go_at_call 144; (with_reducible refine (impl_isDigit.calls (bt a0 x3_1) true _ A9.1).mono ?_); rintro e w' ⟨rfl, ⟨nd, rfl⟩⟩))
        go_roundg k1
        case measure => have := HK1.1; omega
        case rel => exact ⟨(wrap64 (x3_1 + 1)), q3_, H', ⟨q82_⟩, q10_⟩
       ·replace c10 := Bool.eq_false_iff.mpr c10; subst c10; rw [if_neg (show ¬ (false = true) by decide)] at H; have HC12 := aK H; clear H; have p4 : 0 ≤ (x3_1 : Int) := of_decide_eq_true q4_; have q4 : x3_1 < (a0.size : Int) := of_decide_eq_true q4_; have hx4 := bt_at a0 x3_1; replace p4 := eq_true p4; replace q4 := eq_true q4; go_upto_if 31 with (first | ((with_reducible refine gate_callee (f := 143) rfl ?_); refine goesL_ (some 13) rfl rfl Tryz.func143 (by kernel_rfl) rfl #[.int .u8 (bt a0 x3_1)] rfl q2_ ?_; (with_reducible refine (impl_isSmall.calls (bt a0 x3_1) false _ A5.1).mono ?_); rintro e w' ⟨rfl, ⟨nd, rfl⟩⟩; refine ⟨_, rfl, ?_⟩; have p8 : 0 ≤ (x3_1 : Int) := of_decide_eq_true q4_; have q8 : x3_1 < (a0.size : Int) := of_decide_eq_true q4_; have hx8 := bt_at a0 x3_1; replace p8 := eq_true p8; replace q8 := eq_true q8) | (go_at_call 144; (with_reducible refine (impl_isDigit.calls (bt a0 x3_1) false _ A9.1).mono ?_); rintro e w' ⟨rfl, ⟨nd, rfl⟩⟩; have p11 : 0 ≤ (x3_1 : Int) := of_decide_eq_true q4_; have q11 : x3_1 < (a0.size : Int) := of_decide_eq_true q4_; have hx11 := bt_at a0 x3_1; replace p11 := eq_true p11; replace q11 := eq_true q11))
        (try simp only [Act.put, sI, sZ, sS]); have H := HC12.1; clear HC12; by_cases c13 : (bt a0 x3_1) = 45
        ·rw [if_pos c13] at H; have c13b0 := beq_iff_eq.mpr c13; have c13b1 : ((bt a0 x3_1) != 45) = false := bne_eq_false_iff_eq.mpr c13; clear c13; (first | rw [c13b0] | rw [c13i0] | (simp only [i64_w, i32_w]; rw [c13b0]) | skip); have H' := aK H; clear H; go_wp2
         go_roundg k1
         case measure => have := HK1.1; omega
         case rel => exact ⟨(wrap64 (x3_1 + 1)), q3_, H', ⟨q82_⟩, q10_⟩
        ·rw [if_neg c13] at H; have c13b0 := beq_eq_false_iff_ne.mpr c13; have c13b1 : ((bt a0 x3_1) != 45) = true := bne_iff_ne.mpr c13; (first | rw [c13b0] | rw [c13i0] | (simp only [i64_w, i32_w]; rw [c13b0]) | skip); obtain rfl := Option.some.inj H; go_wp2
         go_ret
         exact ⟨q3_, q10_⟩
    ·rw [if_neg c3] at H; exact absurd H (by simp)
   ·rw [if_neg c2] at H; have c2b0 := decide_eq_false c2; clear c2; replace H := oB H; obtain ⟨t285, A14, H⟩ := H; (try dsimp only at H); obtain rfl := Option.some.inj H; go_wp2_with (first | ((with_reducible refine gate_callee (f := 80) rfl ?_); refine goesL_ (some 34) rfl rfl Tryz.func80 (by kernel_rfl) rfl #[.int .i64 (a0.size : Int), .int .i64 1, .int .i64 20] rfl q2_ ?_; (with_reducible refine (impl_in.calls (a0.size : Int) 1 20 t285 _ A14.1).mono ?_); rintro e w' ⟨rfl, ⟨nd, rfl⟩⟩; refine ⟨_, rfl, ?_⟩))
    go_ret
    exact ⟨q3_, q10_⟩


def strings_Trim.f (a0 : ByteArray) (a1 : ByteArray) : Option ByteArray := if a0.size ≤ 9223372036854775807 ∧ a1.data.toList.all (fun b => decide (b.toNat < 128)) = true ∧ a1.size < 4294967281 then some ⟨(Lib.trimS a0.data.toList a1.data.toList).toArray⟩ else none
theorem strings_Trim.calls (a0 : ByteArray) (a1 : ByteArray) (r : ByteArray) (w : World) (h : strings_Trim.f a0 a1 = some r) :
  Calls Tryz.prog 157 #[.string a0, .string a1] w fun e w' => e = .returned (.string r) ∧ Below w.heap.size w w' := by
 unfold strings_Trim.f at h
 split at h
 ·rename_i hs
  obtain rfl := Option.some.inj h; exact (Go.Proofs.YtaajhdljdmbhhaaGreatDoor.Shelf.Tryz.strings_Trim_laid a0 a1 w hs.1 hs.2.2 (fun j b hb => of_decide_eq_true (List.all_eq_true.1 hs.2.1 b (List.mem_of_getElem? hb)))).mono fun e w' ⟨he, hw⟩ => ⟨he, hw⟩
 ·cases h

def impl_Trim.f (a0 : ByteArray) : Option (ByteArray) := (strings_Trim.f a0 (⟨#[32, 9]⟩ : BA)).bind fun t288 => (some t288)
theorem impl_Trim.calls (a0 : ByteArray) (r : ByteArray) (w : World) (h : impl_Trim.f a0 = some r) :
  Calls Tryz.prog 134 #[.string a0] w fun e w' => e = .returned (.string r) ∧ Below w.heap.size w w' := by
 have HB := aK (Below.refl w.heap.size w); have H : ((strings_Trim.f a0 (⟨#[32, 9]⟩ : BA)).bind fun t288 => (some t288)) = some r := h; clear h; replace H := oB H; obtain ⟨t288, A2, H⟩ := H; (try dsimp only at H); obtain rfl := Option.some.inj H; go_enter Tryz.func134, Tryz.ntmps134
 go_wp2_with (first | ((with_reducible refine gate_callee (f := 157) rfl ?_); refine goesL_ (some 4) rfl rfl Tryz.func157 (by kernel_rfl) rfl #[.string a0, .string (⟨#[32, 9]⟩ : BA)] rfl q2_ ?_; (with_reducible refine (strings_Trim.calls a0 (⟨#[32, 9]⟩ : BA) t288 _ A2.1).mono ?_); rintro e w3 ⟨rfl, hb⟩; refine ⟨_, rfl, ?_⟩; replace HB := aK (below_step q1_ hb); clear hb))
 go_ret
 exact ⟨q8_, q1_⟩

def impl_valOk.f (k : Nat) (a0 : ByteArray) : Option (Bool) := if (a0.size : Int) ≤ 60 then ((impl_Plain.f k a0).bind fun t289 => (if t289 = true then ((impl_Trim.f a0).bind fun t290 => (some (t290.toList == a0.toList))) else (some false))) else (some false)

theorem impl_valOk.calls (k : Nat) (a0 : ByteArray) (r : Bool) (w : World) (h : impl_valOk.f k a0 = some r) :
  Calls Tryz.prog 117 #[.string a0] w fun e w' => e = .returned (.bool r) ∧ Below w.heap.size w w' := by
 have HB := aK (Below.refl w.heap.size w); have H := h; clear h; unfold impl_valOk.f at H
 by_cases c2 : (a0.size : Int) ≤ 60
 ·rw [if_pos c2] at H; have c2b0 := decide_eq_true c2; have c2b1 : decide (a0.size ≤ 60) = true := decide_eq_true (by omega); clear c2; replace H := oB H; obtain ⟨t289, A3, H⟩ := H; (try dsimp only at H); by_cases c4 : t289 = true
  ·subst c4; rw [if_pos rfl] at H; replace H := oB H; obtain ⟨t290, A5, H⟩ := H; (try dsimp only at H); obtain rfl := Option.some.inj H; go_enter Tryz.func117, Tryz.ntmps117
   go_wp2_with (first | (go_at_call 114; (with_reducible refine (impl_Plain.calls k a0 true _ A3.1).mono ?_); rintro e w' ⟨rfl, ⟨nd, rfl⟩⟩) | (go_at_call 134; (with_reducible refine (impl_Trim.calls a0 t290 _ A5.1).mono ?_); rintro e w6 ⟨rfl, hb⟩; replace HB := aK (below_step q1_ hb); clear hb))
   go_ret
   exact ⟨q8_, q1_⟩
  ·replace c4 := Bool.eq_false_iff.mpr c4; subst c4; rw [if_neg (show ¬ (false = true) by decide)] at H; obtain rfl := Option.some.inj H; go_enter Tryz.func117, Tryz.ntmps117
   go_wp2_with (first | (go_at_call 114; (with_reducible refine (impl_Plain.calls k a0 false _ A3.1).mono ?_); rintro e w' ⟨rfl, ⟨nd, rfl⟩⟩))
   go_ret
   exact ⟨q8_, q1_⟩
 ·rw [if_neg c2] at H; have c2b0 := decide_eq_false c2; have c2b1 : decide (a0.size ≤ 60) = false := decide_eq_false (by omega); clear c2; obtain rfl := Option.some.inj H; go_enter Tryz.func117, Tryz.ntmps117
  go_wp2
  go_ret
  exact ⟨q8_, q1_⟩

def impl_headsOk.l0 : Nat → List (S113) → List (S113) → Int → Int → Option (Bool)
 | 0, _, _, _, _ => none
 | k + 1, x0, x5, x6, x7 => if x7 < x6 then (if 0 ≤ x7 then (if x7 < (x5.length : Int) then ((impl_SmallName.f k ((rd_T113 x5 x7).f0)).bind fun t293 => (if t293 = true then ((impl_valOk.f k ((rd_T113 x5 x7).f1)).bind fun t294 => (if t294 = true then (if ((rd_T113 x5 x7).f0).toList = ([99, 111, 110, 116, 101, 110, 116, 45, 108, 101, 110, 103, 116, 104] : List UInt8) then (some false) else (if ((rd_T113 x5 x7).f0).toList = ([116, 114, 97, 110, 115, 102, 101, 114, 45, 101, 110, 99, 111, 100, 105, 110, 103] : List UInt8) then (some false) else (impl_headsOk.l0 k x0 x5 x6 (wrap64 (x7 + 1))))) else (some false))) else (some false))) else (none)) else (none)) else (some (decide ((x0.length : Int) ≤ 8)))
def impl_headsOk.f (k : Nat) (l0 : List (S113)) : Option (Bool) := impl_headsOk.l0 k l0 l0 (l0.length : Int) 0

theorem impl_headsOk.calls (k : Nat) (A0 : Option Addr) (c0 : Nat) (l0 : List (S113)) (r : Bool) (w : World) (hr0 : Kd.C k113 w A0 l0.length l0) (hc0 : l0.length ≤ c0) (h : impl_headsOk.f k l0 = some r) :
  Calls Tryz.prog 92 #[.slice A0 l0.length c0] w fun e w' => e = .returned (.bool r) ∧ Below w.heap.size w w' := by
 have hu113 := Tryz.underlying113; have HR0 := aK hr0; have HC0 := aK hc0; clear hr0 hc0; have HB := aK (Below.refl w.heap.size w); have H : (impl_headsOk.l0 k l0 l0 (l0.length : Int) 0) = some r := h; clear h; have H' := aK H; clear H; go_enter Tryz.func92, Tryz.ntmps92
 go_wp2
 go_loopg [7] k (fun kq v7 w' => ∃ (x7_1 : Int), v7 = .int .i64 x7_1 ∧ Aside0 (impl_headsOk.l0 kq l0 l0 (l0.length : Int) x7_1 = some r) ∧ Aside0 (kq ≤ k) ∧ Aside0 (Below w.heap.size w w'))
 case atStart => exact ⟨(0), q3_, H', ⟨Nat.le_refl _⟩, ⟨q1_⟩⟩
 case round =>
  clear H'; obtain ⟨x7_1, rfl, HA, HK1, HB⟩ := hrel; cases gk with
  | zero => exact absurd HA.1 (by simp [impl_headsOk.l0])
  | succ k1 =>
   have H := HA.1; clear HA; simp only [impl_headsOk.l0] at H; by_cases c2 : x7_1 < (l0.length : Int)
   ·rw [if_pos c2] at H; have c2b0 := decide_eq_true c2; clear c2; by_cases c3 : 0 ≤ x7_1
    ·rw [if_pos c3] at H; have c3b0 := decide_eq_true c3; clear c3; by_cases c4 : x7_1 < (l0.length : Int)
     ·rw [if_pos c4] at H; have c4b0 := decide_eq_true c4; clear c4; replace H := oB H; obtain ⟨t293, A5, H⟩ := H; (try dsimp only at H); by_cases c6 : t293 = true
      ·subst c6; rw [if_pos rfl] at H; replace H := oB H; obtain ⟨t294, A7, H⟩ := H; (try dsimp only at H); by_cases c8 : t294 = true
       ·subst c8; rw [if_pos rfl] at H; by_cases c9 : ((rd_T113 l0 x7_1).f0).toList = ([99, 111, 110, 116, 101, 110, 116, 45, 108, 101, 110, 103, 116, 104] : List UInt8)
        ·rw [if_pos c9] at H; have c9b0 := beq_iff_eq.mpr c9; have c9b1 : (((rd_T113 l0 x7_1).f0).toList != ([99, 111, 110, 116, 101, 110, 116, 45, 108, 101, 110, 103, 116, 104] : List UInt8)) = false := bne_eq_false_iff_eq.mpr c9; clear c9; obtain rfl := Option.some.inj H; have p291 : 0 ≤ (x7_1 : Int) := of_decide_eq_true q4_; have q291 : x7_1 < (l0.length : Int) := of_decide_eq_true q4_; obtain ⟨ad291, e291, hx291_0, hx291_1⟩ := at_T113 HR0.1 x7_1 p291 q291; cases e291
         replace hx291_0 := (HB.1.cell (World.block_lt_of_cell? w _ hx291_0)).trans hx291_0; replace hx291_1 := (HB.1.cell (World.block_lt_of_cell? w _ hx291_1)).trans hx291_1; replace p291 := eq_true p291; replace q291 := eq_true q291; go_wp2_with (first | ((with_reducible refine gate_dst (N := 4) rfl ?_); refine box_event ?hg (N := 4) ?hd (cs := #[.string (⟨#[]⟩ : BA), .string (⟨#[]⟩ : BA)]) (t := 113) ?hr ?_; (case hd => rfl); (case hg => rfl); (case hr => exact q28_); intro gb292 hg w10 hbox hb; have BK292 := aK (hbox); have GW292 := aK ((q39_ : w.heap.size ≤ gb292)); have GE292 := aK ((q39_ : w.heap.size ≤ gb292)); replace HB := aK (below_step q1_ hb); clear hb hbox hg; obtain ⟨hcz11_0, hfz11_0, hcz11_1, hfz11_1⟩ := cel2 BK292.1) | ((with_reducible refine gate_callee (f := 116) rfl ?_); refine goesL_ (some 13) rfl rfl Tryz.func116 (by kernel_rfl) rfl #[.string ((rd_T113 l0 x7_1).f0)] rfl q2_ ?_; (with_reducible refine (impl_SmallName.calls k1 ((rd_T113 l0 x7_1).f0) true _ A5.1).mono ?_); rintro e w' ⟨rfl, ⟨nd, rfl⟩⟩; refine ⟨_, rfl, ?_⟩) | (go_at_call 117; (with_reducible refine (impl_valOk.calls k1 ((rd_T113 l0 x7_1).f1) true _ A7.1).mono ?_); rintro e w12 ⟨rfl, hb⟩; replace BK292 := aK (bB_ (g := gb292) (o := .cells #[.string ((rd_T113 l0 x7_1).f0), .string ((rd_T113 l0 x7_1).f1)] 113 (0, 0)) (by (with_reducible repeat (first | refine bN_ ?_ _ | refine bD_ ?_ | refine bA_ ?_ _)); refine blk_put (cs := #[.string ((rd_T113 l0 x7_1).f0), .string (⟨#[]⟩ : BA)]) ?_ 1 _ rfl; (with_reducible repeat (first | refine bN_ ?_ _ | refine bD_ ?_ | refine bA_ ?_ _)); refine blk_put (cs := #[.string (⟨#[]⟩ : BA), .string (⟨#[]⟩ : BA)]) ?_ 0 _ rfl; (with_reducible repeat (first | refine bN_ ?_ _ | refine bD_ ?_ | refine bA_ ?_ _)); exact BK292.1) hb); replace HB := aK (below_step q57_ hb); clear hb; obtain ⟨hcz13_0, hfz13_0, hcz13_1, hfz13_1⟩ := cel2 BK292.1))
         go_ret
         exact ⟨q8_, q57_⟩
        ·rw [if_neg c9] at H; have c9b0 := beq_eq_false_iff_ne.mpr c9; have c9b1 : (((rd_T113 l0 x7_1).f0).toList != ([99, 111, 110, 116, 101, 110, 116, 45, 108, 101, 110, 103, 116, 104] : List UInt8)) = true := bne_iff_ne.mpr c9; have HC14 := aK H; clear H; have p291 : 0 ≤ (x7_1 : Int) := of_decide_eq_true q4_; have q291 : x7_1 < (l0.length : Int) := of_decide_eq_true q4_; obtain ⟨ad291, e291, hx291_0, hx291_1⟩ := at_T113 HR0.1 x7_1 p291 q291; cases e291
         replace hx291_0 := (HB.1.cell (World.block_lt_of_cell? w _ hx291_0)).trans hx291_0; replace hx291_1 := (HB.1.cell (World.block_lt_of_cell? w _ hx291_1)).trans hx291_1; replace p291 := eq_true p291; replace q291 := eq_true q291; go_upto_if 30 with (first | ((with_reducible refine gate_dst (N := 4) rfl ?_); refine box_event ?hg (N := 4) ?hd (cs := #[.string (⟨#[]⟩ : BA), .string (⟨#[]⟩ : BA)]) (t := 113) ?hr ?_; (case hd => rfl); (case hg => rfl); (case hr => exact q28_); intro gb292 hg w15 hbox hb; have BK292 := aK (hbox); have GW292 := aK ((q39_ : w.heap.size ≤ gb292)); have GE292 := aK ((q39_ : w.heap.size ≤ gb292)); replace HB := aK (below_step q1_ hb); clear hb hbox hg; obtain ⟨hcz16_0, hfz16_0, hcz16_1, hfz16_1⟩ := cel2 BK292.1) | ((with_reducible refine gate_callee (f := 116) rfl ?_); refine goesL_ (some 13) rfl rfl Tryz.func116 (by kernel_rfl) rfl #[.string ((rd_T113 l0 x7_1).f0)] rfl q2_ ?_; (with_reducible refine (impl_SmallName.calls k1 ((rd_T113 l0 x7_1).f0) true _ A5.1).mono ?_); rintro e w' ⟨rfl, ⟨nd, rfl⟩⟩; refine ⟨_, rfl, ?_⟩) | (go_at_call 117; (with_reducible refine (impl_valOk.calls k1 ((rd_T113 l0 x7_1).f1) true _ A7.1).mono ?_); rintro e w17 ⟨rfl, hb⟩; replace BK292 := aK (bB_ (g := gb292) (o := .cells #[.string ((rd_T113 l0 x7_1).f0), .string ((rd_T113 l0 x7_1).f1)] 113 (0, 0)) (by (with_reducible repeat (first | refine bN_ ?_ _ | refine bD_ ?_ | refine bA_ ?_ _)); refine blk_put (cs := #[.string ((rd_T113 l0 x7_1).f0), .string (⟨#[]⟩ : BA)]) ?_ 1 _ rfl; (with_reducible repeat (first | refine bN_ ?_ _ | refine bD_ ?_ | refine bA_ ?_ _)); refine blk_put (cs := #[.string (⟨#[]⟩ : BA), .string (⟨#[]⟩ : BA)]) ?_ 0 _ rfl; (with_reducible repeat (first | refine bN_ ?_ _ | refine bD_ ?_ | refine bA_ ?_ _)); exact BK292.1) hb); replace HB := aK (below_step q57_ hb); clear hb; obtain ⟨hcz18_0, hfz18_0, hcz18_1, hfz18_1⟩ := cel2 BK292.1))
         (try simp only [Act.put, sI, sZ, sS]); have H := HC14.1; clear HC14; by_cases c19 : ((rd_T113 l0 x7_1).f0).toList = ([116, 114, 97, 110, 115, 102, 101, 114, 45, 101, 110, 99, 111, 100, 105, 110, 103] : List UInt8)
         ·rw [if_pos c19] at H; have c19b0 := beq_iff_eq.mpr c19; have c19b1 : (((rd_T113 l0 x7_1).f0).toList != ([116, 114, 97, 110, 115, 102, 101, 114, 45, 101, 110, 99, 111, 100, 105, 110, 103] : List UInt8)) = false := bne_eq_false_iff_eq.mpr c19; clear c19; (first | rw [c19b0] | rw [c19i0] | (simp only [i64_w, i32_w]; rw [c19b0]) | skip); obtain rfl := Option.some.inj H; go_wp2
          go_ret
          exact ⟨q8_, q57_⟩
         ·rw [if_neg c19] at H; have c19b0 := beq_eq_false_iff_ne.mpr c19; have c19b1 : (((rd_T113 l0 x7_1).f0).toList != ([116, 114, 97, 110, 115, 102, 101, 114, 45, 101, 110, 99, 111, 100, 105, 110, 103] : List UInt8)) = true := bne_iff_ne.mpr c19; (first | rw [c19b0] | rw [c19i0] | (simp only [i64_w, i32_w]; rw [c19b0]) | skip); have H' := aK H; clear H; go_wp2
          go_roundg k1
          case measure => have := HK1.1; omega
          case rel => exact ⟨(wrap64 (x7_1 + 1)), q3_, H', ⟨q82_⟩, ⟨q57_⟩⟩
       ·replace c8 := Bool.eq_false_iff.mpr c8; subst c8; rw [if_neg (show ¬ (false = true) by decide)] at H; obtain rfl := Option.some.inj H; have p291 : 0 ≤ (x7_1 : Int) := of_decide_eq_true q4_; have q291 : x7_1 < (l0.length : Int) := of_decide_eq_true q4_; obtain ⟨ad291, e291, hx291_0, hx291_1⟩ := at_T113 HR0.1 x7_1 p291 q291; cases e291
        replace hx291_0 := (HB.1.cell (World.block_lt_of_cell? w _ hx291_0)).trans hx291_0; replace hx291_1 := (HB.1.cell (World.block_lt_of_cell? w _ hx291_1)).trans hx291_1; replace p291 := eq_true p291; replace q291 := eq_true q291; go_wp2_with (first | ((with_reducible refine gate_dst (N := 4) rfl ?_); refine box_event ?hg (N := 4) ?hd (cs := #[.string (⟨#[]⟩ : BA), .string (⟨#[]⟩ : BA)]) (t := 113) ?hr ?_; (case hd => rfl); (case hg => rfl); (case hr => exact q28_); intro gb292 hg w20 hbox hb; have BK292 := aK (hbox); have GW292 := aK ((q39_ : w.heap.size ≤ gb292)); have GE292 := aK ((q39_ : w.heap.size ≤ gb292)); replace HB := aK (below_step q1_ hb); clear hb hbox hg; obtain ⟨hcz21_0, hfz21_0, hcz21_1, hfz21_1⟩ := cel2 BK292.1) | ((with_reducible refine gate_callee (f := 116) rfl ?_); refine goesL_ (some 13) rfl rfl Tryz.func116 (by kernel_rfl) rfl #[.string ((rd_T113 l0 x7_1).f0)] rfl q2_ ?_; (with_reducible refine (impl_SmallName.calls k1 ((rd_T113 l0 x7_1).f0) true _ A5.1).mono ?_); rintro e w' ⟨rfl, ⟨nd, rfl⟩⟩; refine ⟨_, rfl, ?_⟩) | (go_at_call 117; (with_reducible refine (impl_valOk.calls k1 ((rd_T113 l0 x7_1).f1) false _ A7.1).mono ?_); rintro e w22 ⟨rfl, hb⟩; replace BK292 := aK (bB_ (g := gb292) (o := .cells #[.string ((rd_T113 l0 x7_1).f0), .string ((rd_T113 l0 x7_1).f1)] 113 (0, 0)) (by (with_reducible repeat (first | refine bN_ ?_ _ | refine bD_ ?_ | refine bA_ ?_ _)); refine blk_put (cs := #[.string ((rd_T113 l0 x7_1).f0), .string (⟨#[]⟩ : BA)]) ?_ 1 _ rfl; (with_reducible repeat (first | refine bN_ ?_ _ | refine bD_ ?_ | refine bA_ ?_ _)); refine blk_put (cs := #[.string (⟨#[]⟩ : BA), .string (⟨#[]⟩ : BA)]) ?_ 0 _ rfl; (with_reducible repeat (first | refine bN_ ?_ _ | refine bD_ ?_ | refine bA_ ?_ _)); exact BK292.1) hb); replace HB := aK (below_step q57_ hb); clear hb))
        go_ret
        exact ⟨q8_, q57_⟩
      ·replace c6 := Bool.eq_false_iff.mpr c6; subst c6; rw [if_neg (show ¬ (false = true) by decide)] at H; obtain rfl := Option.some.inj H; have p291 : 0 ≤ (x7_1 : Int) := of_decide_eq_true q4_; have q291 : x7_1 < (l0.length : Int) := of_decide_eq_true q4_; obtain ⟨ad291, e291, hx291_0, hx291_1⟩ := at_T113 HR0.1 x7_1 p291 q291; cases e291
       replace hx291_0 := (HB.1.cell (World.block_lt_of_cell? w _ hx291_0)).trans hx291_0; replace hx291_1 := (HB.1.cell (World.block_lt_of_cell? w _ hx291_1)).trans hx291_1; replace p291 := eq_true p291; replace q291 := eq_true q291; go_wp2_with (first | ((with_reducible refine gate_dst (N := 4) rfl ?_); refine box_event ?hg (N := 4) ?hd (cs := #[.string (⟨#[]⟩ : BA), .string (⟨#[]⟩ : BA)]) (t := 113) ?hr ?_; (case hd => rfl); (case hg => rfl); (case hr => exact q28_); intro gb292 hg w23 hbox hb; have BK292 := aK (hbox); have GW292 := aK ((q39_ : w.heap.size ≤ gb292)); have GE292 := aK ((q39_ : w.heap.size ≤ gb292)); replace HB := aK (below_step q1_ hb); clear hb hbox hg; obtain ⟨hcz24_0, hfz24_0, hcz24_1, hfz24_1⟩ := cel2 BK292.1) | ((with_reducible refine gate_callee (f := 116) rfl ?_); refine goesL_ (some 13) rfl rfl Tryz.func116 (by kernel_rfl) rfl #[.string ((rd_T113 l0 x7_1).f0)] rfl q2_ ?_; (with_reducible refine (impl_SmallName.calls k1 ((rd_T113 l0 x7_1).f0) false _ A5.1).mono ?_); rintro e w' ⟨rfl, ⟨nd, rfl⟩⟩; refine ⟨_, rfl, ?_⟩))
       go_ret
       exact ⟨q8_, q57_⟩
     ·rw [if_neg c4] at H; exact absurd H (by simp)
    ·rw [if_neg c3] at H; exact absurd H (by simp)
   ·rw [if_neg c2] at H; have c2b0 := decide_eq_false c2; clear c2; obtain rfl := Option.some.inj H; go_wp2
    go_ret
    exact ⟨q8_, q1_⟩

def impl_ReqOk.f (k : Nat) (a0_0 : ByteArray) (a0_1 : ByteArray) (l0_2 : List (S113)) (a0_3 : ByteArray) : Option (Bool) := (impl_lineOk.f k a0_0 a0_1).bind fun t296 => (if t296 = true then ((impl_headsOk.f k l0_2).bind fun t297 => (if t297 = true then (some (decide ((a0_3.size : Int) ≤ 200))) else (some false))) else (some false))

theorem impl_ReqOk.calls (k : Nat) (a0_0 : ByteArray) (a0_1 : ByteArray) (A0_2 : Option Addr) (c0_2 : Nat) (l0_2 : List (S113)) (a0_3 : ByteArray) (r : Bool) (w : World) (hr0_2 : Kd.C k113 w A0_2 l0_2.length l0_2) (hc0_2 : l0_2.length ≤ c0_2) (h : impl_ReqOk.f k a0_0 a0_1 l0_2 a0_3 = some r) :
  Calls Tryz.prog 53 #[.agg #[.string a0_0, .string a0_1, .slice A0_2 l0_2.length c0_2, .string a0_3]] w fun e w' => e = .returned (.bool r) ∧ Below w.heap.size w w' := by
 have hu53 := Tryz.underlying53; have HR0_2 := aK hr0_2; have HC0_2 := aK hc0_2; clear hr0_2 hc0_2; have HB := aK (Below.refl w.heap.size w); have H := h; clear h; unfold impl_ReqOk.f at H
 replace H := oB H; obtain ⟨t296, A2, H⟩ := H; (try dsimp only at H); by_cases c3 : t296 = true
 ·subst c3; rw [if_pos rfl] at H; replace H := oB H; obtain ⟨t297, A4, H⟩ := H; (try dsimp only at H); by_cases c5 : t297 = true
  ·subst c5; rw [if_pos rfl] at H; obtain rfl := Option.some.inj H; go_enter Tryz.func53, Tryz.ntmps53
   go_wp2_with (first | ((with_reducible refine gate_dst (N := 1) rfl ?_); (try (refine gate_guard (by rfl) ?_; dsimp only)); refine box_event ?hg (N := 1) ?hd (cs := #[.string a0_0, .string a0_1, .slice A0_2 l0_2.length c0_2, .string a0_3]) (t := 53) ?hr ?_; (case hd => rfl); (case hg => rfl); (case hr => exact q28_); intro gb295 hg w6 hbox hb; have BK295 := aK (hbox); have GW295 := aK ((q39_ : w.heap.size ≤ gb295)); have GE295 := aK ((q39_ : w.heap.size ≤ gb295)); replace HB := aK (below_step q1_ hb); clear hb hbox hg; obtain ⟨hcz7_0, hfz7_0, hcz7_1, hfz7_1, hcz7_2, hfz7_2, hcz7_3, hfz7_3⟩ := cel4 BK295.1) | ((with_reducible refine gate_callee (f := 91) rfl ?_); refine goesL_ (some 7) rfl rfl Tryz.func91 (by kernel_rfl) rfl #[.string a0_0, .string a0_1] rfl q2_ ?_; (with_reducible refine (impl_lineOk.calls k a0_0 a0_1 true _ A2.1).mono ?_); rintro e w' ⟨rfl, ⟨nd, rfl⟩⟩; refine ⟨_, rfl, ?_⟩) | (go_at_call 92; (with_reducible refine (impl_headsOk.calls k _ _ l0_2 true _ ?side1 ?side2 A4.1).mono ?_); (case side1 => exact q158_); (case side2 => exact q136_); rintro e w8 ⟨rfl, hb⟩; replace BK295 := aK (bB_ (g := gb295) (o := .cells #[.string a0_0, .string a0_1, .slice A0_2 l0_2.length c0_2, .string a0_3] 53 (0, 0)) q172_ hb); replace HB := aK (below_step q62_ hb); clear hb; obtain ⟨hcz9_0, hfz9_0, hcz9_1, hfz9_1, hcz9_2, hfz9_2, hcz9_3, hfz9_3⟩ := cel4 BK295.1))
   go_ret
   exact ⟨q8_, q62_⟩
  ·replace c5 := Bool.eq_false_iff.mpr c5; subst c5; rw [if_neg (show ¬ (false = true) by decide)] at H; obtain rfl := Option.some.inj H; go_enter Tryz.func53, Tryz.ntmps53
   go_wp2_with (first | ((with_reducible refine gate_dst (N := 1) rfl ?_); (try (refine gate_guard (by rfl) ?_; dsimp only)); refine box_event ?hg (N := 1) ?hd (cs := #[.string a0_0, .string a0_1, .slice A0_2 l0_2.length c0_2, .string a0_3]) (t := 53) ?hr ?_; (case hd => rfl); (case hg => rfl); (case hr => exact q28_); intro gb295 hg w10 hbox hb; have BK295 := aK (hbox); have GW295 := aK ((q39_ : w.heap.size ≤ gb295)); have GE295 := aK ((q39_ : w.heap.size ≤ gb295)); replace HB := aK (below_step q1_ hb); clear hb hbox hg; obtain ⟨hcz11_0, hfz11_0, hcz11_1, hfz11_1, hcz11_2, hfz11_2, hcz11_3, hfz11_3⟩ := cel4 BK295.1) | ((with_reducible refine gate_callee (f := 91) rfl ?_); refine goesL_ (some 7) rfl rfl Tryz.func91 (by kernel_rfl) rfl #[.string a0_0, .string a0_1] rfl q2_ ?_; (with_reducible refine (impl_lineOk.calls k a0_0 a0_1 true _ A2.1).mono ?_); rintro e w' ⟨rfl, ⟨nd, rfl⟩⟩; refine ⟨_, rfl, ?_⟩) | (go_at_call 92; (with_reducible refine (impl_headsOk.calls k _ _ l0_2 false _ ?side1 ?side2 A4.1).mono ?_); (case side1 => exact q158_); (case side2 => exact q136_); rintro e w12 ⟨rfl, hb⟩; replace BK295 := aK (bB_ (g := gb295) (o := .cells #[.string a0_0, .string a0_1, .slice A0_2 l0_2.length c0_2, .string a0_3] 53 (0, 0)) q172_ hb); replace HB := aK (below_step q62_ hb); clear hb))
   go_ret
   exact ⟨q8_, q62_⟩
 ·replace c3 := Bool.eq_false_iff.mpr c3; subst c3; rw [if_neg (show ¬ (false = true) by decide)] at H; obtain rfl := Option.some.inj H; go_enter Tryz.func53, Tryz.ntmps53
  go_wp2_with (first | ((with_reducible refine gate_dst (N := 1) rfl ?_); (try (refine gate_guard (by rfl) ?_; dsimp only)); refine box_event ?hg (N := 1) ?hd (cs := #[.string a0_0, .string a0_1, .slice A0_2 l0_2.length c0_2, .string a0_3]) (t := 53) ?hr ?_; (case hd => rfl); (case hg => rfl); (case hr => exact q28_); intro gb295 hg w13 hbox hb; have BK295 := aK (hbox); have GW295 := aK ((q39_ : w.heap.size ≤ gb295)); have GE295 := aK ((q39_ : w.heap.size ≤ gb295)); replace HB := aK (below_step q1_ hb); clear hb hbox hg; obtain ⟨hcz14_0, hfz14_0, hcz14_1, hfz14_1, hcz14_2, hfz14_2, hcz14_3, hfz14_3⟩ := cel4 BK295.1) | ((with_reducible refine gate_callee (f := 91) rfl ?_); refine goesL_ (some 7) rfl rfl Tryz.func91 (by kernel_rfl) rfl #[.string a0_0, .string a0_1] rfl q2_ ?_; (with_reducible refine (impl_lineOk.calls k a0_0 a0_1 false _ A2.1).mono ?_); rintro e w' ⟨rfl, ⟨nd, rfl⟩⟩; refine ⟨_, rfl, ?_⟩))
  go_ret
  exact ⟨q8_, q62_⟩

def impl_headText.l0 : Nat → ByteArray → List (S113) → Int → Int → Option (ByteArray)
 | 0, _, _, _, _ => none
 | k + 1, x3, x6, x7, x8 => if x8 < x7 then (if 0 ≤ x8 then (if x8 < (x6.length : Int) then (if ((rd_T113 x6 x8).f0).size + 2 ≤ 9223372036854775807 then (if (((rd_T113 x6 x8).f0) ++ (⟨#[58, 32]⟩ : BA)).size + ((rd_T113 x6 x8).f1).size ≤ 9223372036854775807 then (if ((((rd_T113 x6 x8).f0) ++ (⟨#[58, 32]⟩ : BA)) ++ ((rd_T113 x6 x8).f1)).size + 2 ≤ 9223372036854775807 then (if x3.size + (((((rd_T113 x6 x8).f0) ++ (⟨#[58, 32]⟩ : BA)) ++ ((rd_T113 x6 x8).f1)) ++ (⟨#[13, 10]⟩ : BA)).size ≤ 9223372036854775807 then (impl_headText.l0 k (x3 ++ (((((rd_T113 x6 x8).f0) ++ (⟨#[58, 32]⟩ : BA)) ++ ((rd_T113 x6 x8).f1)) ++ (⟨#[13, 10]⟩ : BA))) x6 x7 (wrap64 (x8 + 1))) else (none)) else (none)) else (none)) else (none)) else (none)) else (none)) else (some x3)
def impl_headText.f (k : Nat) (l0 : List (S113)) : Option (ByteArray) := impl_headText.l0 k (⟨#[]⟩ : BA) l0 (l0.length : Int) 0

theorem impl_headText.calls (k : Nat) (A0 : Option Addr) (c0 : Nat) (l0 : List (S113)) (r : ByteArray) (w : World) (hr0 : Kd.C k113 w A0 l0.length l0) (hc0 : l0.length ≤ c0) (h : impl_headText.f k l0 = some r) :
  Calls Tryz.prog 97 #[.slice A0 l0.length c0] w fun e w' => e = .returned (.string r) ∧ Below w.heap.size w w' := by
 have hu113 := Tryz.underlying113; have HR0 := aK hr0; have HC0 := aK hc0; clear hr0 hc0; have HB := aK (Below.refl w.heap.size w); have H : (impl_headText.l0 k (⟨#[]⟩ : BA) l0 (l0.length : Int) 0) = some r := h; clear h; have H' := aK H; clear H; go_enter Tryz.func97, Tryz.ntmps97
 go_wp2
 go_loopg [3, 8] k (fun kq v3 v8 w' => ∃ (x3_1 : ByteArray) (x8_1 : Int), v3 = .string x3_1 ∧ v8 = .int .i64 x8_1 ∧ Aside0 (impl_headText.l0 kq x3_1 l0 (l0.length : Int) x8_1 = some r) ∧ Aside0 (kq ≤ k) ∧ Aside0 (Below w.heap.size w w'))
 case atStart => exact ⟨((⟨#[]⟩ : BA)), (0), q3_, q3_, H', ⟨Nat.le_refl _⟩, ⟨q1_⟩⟩
 case round =>
  clear H'; obtain ⟨x3_1, x8_1, rfl, rfl, HA, HK1, HB⟩ := hrel; cases gk with
  | zero => exact absurd HA.1 (by simp [impl_headText.l0])
  | succ k1 =>
   have H := HA.1; clear HA; simp only [impl_headText.l0] at H; by_cases c2 : x8_1 < (l0.length : Int)
   ·rw [if_pos c2] at H; have c2b0 := decide_eq_true c2; clear c2; by_cases c3 : 0 ≤ x8_1
    ·rw [if_pos c3] at H; have c3b0 := decide_eq_true c3; clear c3; by_cases c4 : x8_1 < (l0.length : Int)
     ·rw [if_pos c4] at H; have c4b0 := decide_eq_true c4; clear c4; by_cases c5 : ((rd_T113 l0 x8_1).f0).size + 2 ≤ 9223372036854775807
      ·rw [if_pos c5] at H; have c5b0 := eq_true c5; have c5b1 := decide_eq_true c5; try have c5b2 : (9223372036854775807 < ((rd_T113 l0 x8_1).f0).size + 2) = False := eq_false (Nat.not_lt.2 c5)
       by_cases c6 : (((rd_T113 l0 x8_1).f0) ++ (⟨#[58, 32]⟩ : BA)).size + ((rd_T113 l0 x8_1).f1).size ≤ 9223372036854775807
       ·rw [if_pos c6] at H; have c6b0 := eq_true c6; have c6b1 := decide_eq_true c6; try have c6b2 : (9223372036854775807 < (((rd_T113 l0 x8_1).f0) ++ (⟨#[58, 32]⟩ : BA)).size + ((rd_T113 l0 x8_1).f1).size) = False := eq_false (Nat.not_lt.2 c6)
        have c6s : ((rd_T113 l0 x8_1).f0).size + 2 + ((rd_T113 l0 x8_1).f1).size ≤ 9223372036854775807 := q134_; have c6s0 := eq_true c6s; have c6s1 : decide (((rd_T113 l0 x8_1).f0).size + 2 + ((rd_T113 l0 x8_1).f1).size ≤ 9223372036854775807) = true := decide_eq_true c6s; have c6s2 : (9223372036854775807 < ((rd_T113 l0 x8_1).f0).size + 2 + ((rd_T113 l0 x8_1).f1).size) = False := eq_false (Nat.not_lt.2 c6s); by_cases c7 : ((((rd_T113 l0 x8_1).f0) ++ (⟨#[58, 32]⟩ : BA)) ++ ((rd_T113 l0 x8_1).f1)).size + 2 ≤ 9223372036854775807
        ·rw [if_pos c7] at H; have c7b0 := eq_true c7; have c7b1 := decide_eq_true c7; try have c7b2 : (9223372036854775807 < ((((rd_T113 l0 x8_1).f0) ++ (⟨#[58, 32]⟩ : BA)) ++ ((rd_T113 l0 x8_1).f1)).size + 2) = False := eq_false (Nat.not_lt.2 c7)
         have c7s : ((rd_T113 l0 x8_1).f0).size + 2 + ((rd_T113 l0 x8_1).f1).size + 2 ≤ 9223372036854775807 := q148_; have c7s0 := eq_true c7s; have c7s1 : decide (((rd_T113 l0 x8_1).f0).size + 2 + ((rd_T113 l0 x8_1).f1).size + 2 ≤ 9223372036854775807) = true := decide_eq_true c7s; have c7s2 : (9223372036854775807 < ((rd_T113 l0 x8_1).f0).size + 2 + ((rd_T113 l0 x8_1).f1).size + 2) = False := eq_false (Nat.not_lt.2 c7s); by_cases c8 : x3_1.size + (((((rd_T113 l0 x8_1).f0) ++ (⟨#[58, 32]⟩ : BA)) ++ ((rd_T113 l0 x8_1).f1)) ++ (⟨#[13, 10]⟩ : BA)).size ≤ 9223372036854775807
         ·rw [if_pos c8] at H; have c8b0 := eq_true c8; have c8b1 := decide_eq_true c8; try have c8b2 : (9223372036854775807 < x3_1.size + (((((rd_T113 l0 x8_1).f0) ++ (⟨#[58, 32]⟩ : BA)) ++ ((rd_T113 l0 x8_1).f1)) ++ (⟨#[13, 10]⟩ : BA)).size) = False := eq_false (Nat.not_lt.2 c8)
          have c8s : x3_1.size + (((rd_T113 l0 x8_1).f0).size + 2 + ((rd_T113 l0 x8_1).f1).size + 2) ≤ 9223372036854775807 := by have h_ := c8; simp only [ByteArray.size_append] at h_; exact h_
          have c8s0 := eq_true c8s; have c8s1 : decide (x3_1.size + (((rd_T113 l0 x8_1).f0).size + 2 + ((rd_T113 l0 x8_1).f1).size + 2) ≤ 9223372036854775807) = true := decide_eq_true c8s; have c8s2 : (9223372036854775807 < x3_1.size + (((rd_T113 l0 x8_1).f0).size + 2 + ((rd_T113 l0 x8_1).f1).size + 2)) = False := eq_false (Nat.not_lt.2 c8s); have H' := aK H; clear H; have p298 : 0 ≤ (x8_1 : Int) := of_decide_eq_true q4_; have q298 : x8_1 < (l0.length : Int) := of_decide_eq_true q4_; obtain ⟨ad298, e298, hx298_0, hx298_1⟩ := at_T113 HR0.1 x8_1 p298 q298; cases e298
          replace hx298_0 := (HB.1.cell (World.block_lt_of_cell? w _ hx298_0)).trans hx298_0; replace hx298_1 := (HB.1.cell (World.block_lt_of_cell? w _ hx298_1)).trans hx298_1; replace p298 := eq_true p298; replace q298 := eq_true q298; go_wp2_with (first | ((with_reducible refine gate_dst (N := 5) rfl ?_); refine box_event ?hg (N := 5) ?hd (cs := #[.string (⟨#[]⟩ : BA), .string (⟨#[]⟩ : BA)]) (t := 113) ?hr ?_; (case hd => rfl); (case hg => rfl); (case hr => exact q28_); intro gb299 hg w9 hbox hb; have BK299 := aK (hbox); have GW299 := aK ((q39_ : w.heap.size ≤ gb299)); have GE299 := aK ((q39_ : w.heap.size ≤ gb299)); replace HB := aK (below_step q1_ hb); clear hb hbox hg; obtain ⟨hcz10_0, hfz10_0, hcz10_1, hfz10_1⟩ := cel2 BK299.1))
          go_roundg k1
          case measure => have := HK1.1; omega
          case rel => exact ⟨(x3_1 ++ (((((rd_T113 l0 x8_1).f0) ++ (⟨#[58, 32]⟩ : BA)) ++ ((rd_T113 l0 x8_1).f1)) ++ (⟨#[13, 10]⟩ : BA))), (wrap64 (x8_1 + 1)), q3_, q3_, H', ⟨q82_⟩, ⟨by repeat (first | (with_reducible first | exact HB.1 | apply aB_ | apply pN_ | apply dB_ | refine sB_ ?_ GE299.1) | exact HB.1)⟩⟩
         ·rw [if_neg c8] at H; exact absurd H (by simp)
        ·rw [if_neg c7] at H; exact absurd H (by simp)
       ·rw [if_neg c6] at H; exact absurd H (by simp)
      ·rw [if_neg c5] at H; exact absurd H (by simp)
     ·rw [if_neg c4] at H; exact absurd H (by simp)
    ·rw [if_neg c3] at H; exact absurd H (by simp)
   ·rw [if_neg c2] at H; have c2b0 := decide_eq_false c2; clear c2; obtain rfl := Option.some.inj H; go_wp2
    go_ret
    exact ⟨q8_, q1_⟩

end Go.Proofs.YtaajhdljdmbhhaaGreatDoor.GFnChunks
