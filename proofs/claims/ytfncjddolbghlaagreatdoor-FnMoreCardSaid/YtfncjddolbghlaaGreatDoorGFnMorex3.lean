-- by gprint.py (this session's program over the kit's print.py) (a twelfth state) out of the translation. Not trusted: Lean checks it.
import Derived.Test.YtfncjddolbghlaaGreatDoorGFnMorex0
import Derived.Test.YtfncjddolbghlaaGreatDoorGFnMorex2
namespace Go.Proofs.YtfncjddolbghlaaGreatDoor.GFnMore
open Go.RowKit Go.Proofs.YtfncjddolbghlaaGreatDoorW.PrintWords Go.Proofs.YtfncjddolbghlaaGreatDoorW.PrintLast Go.Proofs.YtfncjddolbghlaaGreatDoorW.PrintMore
attribute [local go_sem] max2_int min2_int max_two min_two max_three min_three max_four min_four   -- for this text's walks alone
set_option linter.unusedVariables false
set_option linter.unusedSimpArgs false
set_option maxRecDepth 100000
set_option maxHeartbeats 8000000

mutual
def spec_Trim.j1 : Nat → ByteArray → Option (ByteArray)
 | 0, _ => none
 | k + 1, x0 => spec_Trim.l1 k x0
def spec_Trim.l1 : Nat → ByteArray → Option (ByteArray)
 | 0, _ => none
 | k + 1, x0 => if (x0.size : Int) > 0 then (if 0 ≤ (wrap64 ((x0.size : Int) - 1)) then (if (wrap64 ((x0.size : Int) - 1)) < (x0.size : Int) then ((spec_l1Blank.f (bt x0 (wrap64 ((x0.size : Int) - 1)))).bind fun t129 => (if t129 = true then (if (wrap64 ((x0.size : Int) - 1)) ≤ (x0.size : Int) then (spec_Trim.l1 k (x0.extract 0 ((wrap64 ((x0.size : Int) - 1)) : Int).toNat)) else (none)) else (some x0))) else (none)) else (none)) else (some x0)
def spec_Trim.l0 : Nat → ByteArray → Option (ByteArray)
 | 0, _ => none
 | k + 1, x0 => if (x0.size : Int) > 0 then (if 0 < (x0.size : Int) then ((spec_l1Blank.f (bt x0 0)).bind fun t128 => (if t128 = true then (if 1 ≤ (x0.size : Int) then (spec_Trim.l0 k (x0.extract 1 x0.size)) else (none)) else (spec_Trim.j1 k x0))) else (none)) else (spec_Trim.j1 k x0)
end
def spec_Trim.f (k : Nat) (a0 : ByteArray) : Option (ByteArray) := spec_Trim.l0 k a0

theorem spec_Trim.calls (k : Nat) (a0 : ByteArray) (r : ByteArray) (w : World) (h : spec_Trim.f k a0 = some r) :
  Calls Tryz.prog 167 #[.string a0] w fun e w' => e = .returned (.string r) ∧ Drawn0 w w' := by
 have H : (spec_Trim.l0 k a0) = some r := h
 clear h
 have HC2 := Aside0.mk H
 clear H
 go_enter Tryz.func167, Tryz.ntmps167
 go_upto_block 0 with (fail)
 go_cut [0] (fun v0 wc => ∃ (kq : Nat) (x0_1 : ByteArray), v0 = .string x0_1 ∧ Aside0 (spec_Trim.j1 kq x0_1 = some r) ∧ Aside0 (kq ≤ k) ∧ Drawn0 w wc)
 case first =>
  have H := HC2.1
  clear HC2
  have H' := Aside0.mk H
  clear H
  go_wp2
  go_loopg [0] k (fun kq v0 w' => ∃ (x0_1 : ByteArray), v0 = .string x0_1 ∧ Aside0 (spec_Trim.l0 kq x0_1 = some r) ∧ Aside0 (kq ≤ k) ∧ Drawn0 w w')
  case atStart => exact ⟨(a0), q3_, H', ⟨Nat.le_refl _⟩, q13_⟩
  case round =>
   clear H'
   try clear c1
   try clear p2
   obtain ⟨x0_1, rfl, HA, HK1, ⟨m1, rfl⟩⟩ := hrel
   cases gk with
   | zero => exact absurd HA.1 (by simp [spec_Trim.l0])
   | succ k1 =>
    have H := HA.1
    clear HA
    simp only [spec_Trim.l0] at H
    by_cases c3 : (x0_1.size : Int) > 0
    ·rw [if_pos c3] at H
     have c3b0 : decide (0 < (x0_1.size : Int)) = true := decide_eq_true c3
     have c3b1 : decide (0 < x0_1.size) = true := decide_eq_true (by omega)
     clear c3
     (first | rw [c3b0] | (simp only [i64_w, i32_w]; rw [c3b0]) | skip)
     by_cases c4 : 0 < (x0_1.size : Int)
     ·rw [if_pos c4] at H
      have c4b0 : decide (0 < (x0_1.size : Int)) = true := decide_eq_true c4
      have c4b1 : decide (0 < x0_1.size) = true := decide_eq_true (by omega)
      clear c4
      replace H := Option.bind_eq_some_iff.mp H
      obtain ⟨t128, A60, H⟩ := H
      replace H : (if t128 = true then (if 1 ≤ (x0_1.size : Int) then (spec_Trim.l0 k1 (x0_1.extract 1 x0_1.size)) else (none)) else (spec_Trim.j1 k1 x0_1)) = some r := H
      have A6 := Aside0.mk A60
      clear A60
      by_cases c7 : t128 = true
      ·subst c7
       rw [if_pos rfl] at H
       by_cases c8 : 1 ≤ (x0_1.size : Int)
       ·rw [if_pos c8] at H
        have c8b0 := eq_true c8
        have c8b1 : decide (1 ≤ (x0_1.size : Int)) = true := decide_eq_true c8
        clear c8
        have H' := Aside0.mk H
        clear H
        have p5 : 0 ≤ (0 : Int) := (by omega)
        have q5 : 0 < x0_1.size := (by have : (0 : Int) < (x0_1.size : Int) := of_decide_eq_true q4_; omega)
        have hx5 : ∀ h : 0 < x0_1.size, ((x0_1[0]'h).toNat : Int) = bt x0_1 0 := bt_at x0_1 0
        clear p5
        have qi5 : (0 < (x0_1.size : Int)) = True := eq_true (of_decide_eq_true q4_)
        replace q5 := eq_true q5
        go_wp2_with (first | (go_at_call 191; (with_reducible refine (spec_l1Blank.calls (bt x0_1 0) true _ A6.1).mono ?_); rintro e w' ⟨rfl, ⟨nd, rfl⟩⟩))
        go_roundg k1
        case measure => have := HK1.1; omega
        case rel => exact ⟨(x0_1.extract 1 x0_1.size), q3_, H', ⟨q85_⟩, q13_⟩
       ·rw [if_neg c8] at H
        exact absurd H (by simp)
      ·replace c7 := Bool.eq_false_iff.mpr c7
       subst c7
       rw [if_neg (show ¬ (false = true) by decide)] at H
       have H' := Aside0.mk H
       clear H
       have p5 : 0 ≤ (0 : Int) := (by omega)
       have q5 : 0 < x0_1.size := (by have : (0 : Int) < (x0_1.size : Int) := of_decide_eq_true q4_; omega)
       have hx5 : ∀ h : 0 < x0_1.size, ((x0_1[0]'h).toNat : Int) = bt x0_1 0 := bt_at x0_1 0
       clear p5
       have qi5 : (0 < (x0_1.size : Int)) = True := eq_true (of_decide_eq_true q4_)
       replace q5 := eq_true q5
       go_wp2_with (first | (go_at_call 191; (with_reducible refine (spec_l1Blank.calls (bt x0_1 0) false _ A6.1).mono ?_); rintro e w' ⟨rfl, ⟨nd, rfl⟩⟩))
       go_meet
       case rel => exact ⟨_, (x0_1), q3_, H', ⟨q84_⟩, q13_⟩
     ·rw [if_neg c4] at H
      exact absurd H (by simp)
    ·rw [if_neg c3] at H
     have c3b0 : decide (0 < (x0_1.size : Int)) = false := decide_eq_false c3
     have c3b1 : decide (0 < x0_1.size) = false := decide_eq_false (by omega)
     clear c3
     (first | rw [c3b0] | (simp only [i64_w, i32_w]; rw [c3b0]) | skip)
     have H' := Aside0.mk H
     clear H
     go_wp2
     go_meet
     case rel => exact ⟨_, (x0_1), q3_, H', ⟨q84_⟩, q13_⟩
 case rest =>
  clear HC2
  try clear c1
  try clear p2
  try clear c3
  try clear c3b0
  try clear c3b1
  try clear c4
  try clear c4b0
  try clear c4b1
  try clear p5
  try clear q5
  try clear hx5
  try clear qi5
  try clear c7
  try clear c8
  try clear c8b0
  try clear c8b1
  try clear p2
  try clear p5
  try clear q5
  obtain ⟨kq, x0_1, rfl, HA, HJ1, ⟨mc1, rfl⟩⟩ := hcut
  cases kq with
  | zero => exact absurd HA.1 (by simp [spec_Trim.j1])
  | succ kj1 =>
   have H := HA.1
   clear HA
   simp only [spec_Trim.j1] at H
   have H' := Aside0.mk H
   clear H
   go_wp2
   go_loopg [0] kj1 (fun kq v0 w' => ∃ (x0_2 : ByteArray), v0 = .string x0_2 ∧ Aside0 (spec_Trim.l1 kq x0_2 = some r) ∧ Aside0 (kq ≤ kj1) ∧ Drawn0 w w')
   case atStart => exact ⟨(x0_1), q3_, H', ⟨Nat.le_refl _⟩, q13_⟩
   case round =>
    clear H'
    try clear c1
    try clear p2
    try clear c3
    try clear c3b0
    try clear c3b1
    try clear c4
    try clear c4b0
    try clear c4b1
    try clear p5
    try clear q5
    try clear hx5
    try clear qi5
    try clear c7
    try clear c8
    try clear c8b0
    try clear c8b1
    try clear p2
    try clear p5
    try clear q5
    obtain ⟨x0_2, rfl, HA, HK2, ⟨m2, rfl⟩⟩ := hrel
    cases gk with
    | zero => exact absurd HA.1 (by simp [spec_Trim.l1])
    | succ k2 =>
     have H := HA.1
     clear HA
     simp only [spec_Trim.l1] at H
     by_cases c9 : (x0_2.size : Int) > 0
     ·rw [if_pos c9] at H
      have c9b0 : decide (0 < (x0_2.size : Int)) = true := decide_eq_true c9
      have c9b1 : decide (0 < x0_2.size) = true := decide_eq_true (by omega)
      clear c9
      obtain ⟨ji10, hji10⟩ : ∃ j_ : Int, (wrap64 ((x0_2.size : Int) - 1)) = j_ := ⟨_, rfl⟩
      replace H : (if 0 ≤ (ji10) then (if (ji10) < (x0_2.size : Int) then ((spec_l1Blank.f (bt x0_2 (ji10))).bind fun t129 => (if t129 = true then (if (ji10) ≤ (x0_2.size : Int) then (spec_Trim.l1 k2 (x0_2.extract 0 ((ji10) : Int).toNat)) else (none)) else (some x0_2))) else (none)) else (none)) = some r := by first | (rw [hji10] at H; exact H) | (simp only [hji10] at H ⊢; exact H)
      have hji10w : (IntKind.i64.wrap ((x0_2.size : Int) - 1)) = ji10 := (i64_w _).trans hji10
      by_cases c11 : 0 ≤ (ji10)
      ·rw [if_pos c11] at H
       have c11b0 : decide (0 ≤ (ji10)) = true := decide_eq_true c11
       clear c11
       by_cases c12 : (ji10) < (x0_2.size : Int)
       ·rw [if_pos c12] at H
        have c12b0 : decide ((ji10) < (x0_2.size : Int)) = true := decide_eq_true c12
        clear c12
        replace H := Option.bind_eq_some_iff.mp H
        obtain ⟨t129, A140, H⟩ := H
        replace H : (if t129 = true then (if (ji10) ≤ (x0_2.size : Int) then (spec_Trim.l1 k2 (x0_2.extract 0 ((ji10) : Int).toNat)) else (none)) else (some x0_2)) = some r := H
        have A14 := Aside0.mk A140
        clear A140
        by_cases c15 : t129 = true
        ·subst c15
         rw [if_pos rfl] at H
         have c16b0 := eq_true (of_decide_eq_true q4_ : 0 ≤ (ji10))
         by_cases c17 : (ji10) ≤ (x0_2.size : Int)
         ·rw [if_pos c17] at H
          have c17b0 := eq_true c17
          have c17b1 : decide ((ji10) ≤ (x0_2.size : Int)) = true := decide_eq_true c17
          clear c17
          have H' := Aside0.mk H
          clear H
          have p13 : 0 ≤ ((ji10) : Int) := of_decide_eq_true q4_
          have q13 : (ji10) < (x0_2.size : Int) := of_decide_eq_true q4_
          have hx13 := bt_at x0_2 (ji10)
          replace p13 := eq_true p13
          replace q13 := eq_true q13
          go_wp2_with (first | (go_at_call 191; (with_reducible refine (spec_l1Blank.calls (bt x0_2 (ji10)) true _ A14.1).mono ?_); rintro e w' ⟨rfl, ⟨nd, rfl⟩⟩))
          go_roundg k2
          case measure => have := HJ1.1; have := HK2.1; omega
          case rel => exact ⟨(x0_2.extract 0 ((ji10) : Int).toNat), q126_, H', ⟨by have := HJ1.1; have := HK2.1; omega⟩, q13_⟩
         ·rw [if_neg c17] at H
          exact absurd H (by simp)
        ·replace c15 := Bool.eq_false_iff.mpr c15
         subst c15
         rw [if_neg (show ¬ (false = true) by decide)] at H
         obtain rfl := Option.some.inj H
         have p13 : 0 ≤ ((ji10) : Int) := of_decide_eq_true q4_
         have q13 : (ji10) < (x0_2.size : Int) := of_decide_eq_true q4_
         have hx13 := bt_at x0_2 (ji10)
         replace p13 := eq_true p13
         replace q13 := eq_true q13
         go_wp2_with (first | (go_at_call 191; (with_reducible refine (spec_l1Blank.calls (bt x0_2 (ji10)) false _ A14.1).mono ?_); rintro e w' ⟨rfl, ⟨nd, rfl⟩⟩))
         go_ret
         exact ⟨q126_, q13_⟩
       ·rw [if_neg c12] at H
        exact absurd H (by simp)
      ·rw [if_neg c11] at H
       exact absurd H (by simp)
     ·rw [if_neg c9] at H
      have c9b0 : decide (0 < (x0_2.size : Int)) = false := decide_eq_false c9
      have c9b1 : decide (0 < x0_2.size) = false := decide_eq_false (by omega)
      clear c9
      obtain rfl := Option.some.inj H
      go_wp2
      go_ret
      exact ⟨q3_, q13_⟩

def spec_l3Val.f (k : Nat) (a0 : ByteArray) : Option (Bool) := if (a0.size : Int) ≤ 60 then ((spec_Plain.f k a0).bind fun t130 => (if t130 = true then ((spec_Trim.f k a0).bind fun t131 => (some (t131.toList == a0.toList))) else (some false))) else (some false)

theorem spec_l3Val.calls (k : Nat) (a0 : ByteArray) (r : Bool) (w : World) (h : spec_l3Val.f k a0 = some r) :
  Calls Tryz.prog 141 #[.string a0] w fun e w' => e = .returned (.bool r) ∧ Drawn0 w w' := by
 have H : (if (a0.size : Int) ≤ 60 then ((spec_Plain.f k a0).bind fun t130 => (if t130 = true then ((spec_Trim.f k a0).bind fun t131 => (some (t131.toList == a0.toList))) else (some false))) else (some false)) = some r := h
 clear h
 by_cases c2 : (a0.size : Int) ≤ 60
 ·rw [if_pos c2] at H
  have c2b0 : decide ((a0.size : Int) ≤ 60) = true := decide_eq_true c2
  have c2b1 : decide (a0.size ≤ 60) = true := decide_eq_true (by omega)
  clear c2
  replace H := Option.bind_eq_some_iff.mp H
  obtain ⟨t130, A30, H⟩ := H
  replace H : (if t130 = true then ((spec_Trim.f k a0).bind fun t131 => (some (t131.toList == a0.toList))) else (some false)) = some r := H
  have A3 := Aside0.mk A30
  clear A30
  by_cases c4 : t130 = true
  ·subst c4
   rw [if_pos rfl] at H
   replace H := Option.bind_eq_some_iff.mp H
   obtain ⟨t131, A50, H⟩ := H
   replace H : (some (t131.toList == a0.toList)) = some r := H
   have A5 := Aside0.mk A50
   clear A50
   obtain rfl := Option.some.inj H
   go_enter Tryz.func141, Tryz.ntmps141
   go_wp2_with (first | (go_at_call 166; (with_reducible refine (spec_Plain.calls k a0 true _ A3.1).mono ?_); rintro e w' ⟨rfl, ⟨nd, rfl⟩⟩) | (go_at_call 167; (with_reducible refine (spec_Trim.calls k a0 t131 _ A5.1).mono ?_); rintro e w' ⟨rfl, ⟨nd, rfl⟩⟩))
   go_ret
   exact ⟨q3_, q13_⟩
  ·replace c4 := Bool.eq_false_iff.mpr c4
   subst c4
   rw [if_neg (show ¬ (false = true) by decide)] at H
   obtain rfl := Option.some.inj H
   go_enter Tryz.func141, Tryz.ntmps141
   go_wp2_with (first | (go_at_call 166; (with_reducible refine (spec_Plain.calls k a0 false _ A3.1).mono ?_); rintro e w' ⟨rfl, ⟨nd, rfl⟩⟩))
   go_ret
   exact ⟨q3_, q13_⟩
 ·rw [if_neg c2] at H
  have c2b0 : decide ((a0.size : Int) ≤ 60) = false := decide_eq_false c2
  have c2b1 : decide (a0.size ≤ 60) = false := decide_eq_false (by omega)
  clear c2
  obtain rfl := Option.some.inj H
  go_enter Tryz.func141, Tryz.ntmps141
  go_wp2
  go_ret
  exact ⟨q3_, q13_⟩

def spec_l3Heads.l0 : Nat → List (S88) → Int → Option (Bool)
 | 0, _, _ => none
 | k + 1, x0, x3 => if x3 < (x0.length : Int) then (if 0 ≤ x3 then ((spec_SmallName.f k ((rd_T88 x0 x3).f0)).bind fun t133 => (if t133 = true then ((spec_l3Val.f k ((rd_T88 x0 x3).f1)).bind fun t135 => (if t135 = true then (if ((rd_T88 x0 x3).f0).toList = ([99, 111, 110, 116, 101, 110, 116, 45, 108, 101, 110, 103, 116, 104] : List UInt8) then (some false) else (if ((rd_T88 x0 x3).f0).toList = ([116, 114, 97, 110, 115, 102, 101, 114, 45, 101, 110, 99, 111, 100, 105, 110, 103] : List UInt8) then (some false) else (spec_l3Heads.l0 k x0 (wrap64 (x3 + 1))))) else (some false))) else (some false))) else (none)) else (some (decide ((x0.length : Int) ≤ 8)))
def spec_l3Heads.f (k : Nat) (l0 : List (S88)) : Option (Bool) := spec_l3Heads.l0 k l0 0

theorem spec_l3Heads.calls (k : Nat) (A0 : Option Addr) (c0 : Nat) (l0 : List (S88)) (r : Bool) (w : World) (hr0 : Kd.C k88 w A0 l0.length l0) (hc0 : l0.length ≤ c0) (h : spec_l3Heads.f k l0 = some r) :
  Calls Tryz.prog 98 #[.slice A0 l0.length c0] w fun e w' => e = .returned (.bool r) ∧ Drawn0 w w' := by
 have HR0 := Aside0.mk hr0
 have HC0 := Aside0.mk hc0
 clear hr0 hc0
 have H : (spec_l3Heads.l0 k l0 0) = some r := h
 clear h
 have H' := Aside0.mk H
 clear H
 go_enter Tryz.func98, Tryz.ntmps98
 go_wp2
 go_loopg [3] k (fun kq v3 w' => ∃ (x3_1 : Int), v3 = .int .i64 x3_1 ∧ Aside0 (spec_l3Heads.l0 kq l0 x3_1 = some r) ∧ Aside0 (kq ≤ k) ∧ Drawn0 w w')
 case atStart => exact ⟨(0), q3_, H', ⟨Nat.le_refl _⟩, q13_⟩
 case round =>
  clear H'
  obtain ⟨x3_1, rfl, HA, HK1, ⟨m1, rfl⟩⟩ := hrel
  cases gk with
  | zero => exact absurd HA.1 (by simp [spec_l3Heads.l0])
  | succ k1 =>
   have H := HA.1
   clear HA
   simp only [spec_l3Heads.l0] at H
   by_cases c2 : x3_1 < (l0.length : Int)
   ·rw [if_pos c2] at H
    have c2b0 : decide (x3_1 < (l0.length : Int)) = true := decide_eq_true c2
    clear c2
    by_cases c3 : 0 ≤ x3_1
    ·rw [if_pos c3] at H
     have c3b0 : decide (0 ≤ x3_1) = true := decide_eq_true c3
     clear c3
     replace H := Option.bind_eq_some_iff.mp H
     obtain ⟨t133, A40, H⟩ := H
     replace H : (if t133 = true then ((spec_l3Val.f k1 ((rd_T88 l0 x3_1).f1)).bind fun t135 => (if t135 = true then (if ((rd_T88 l0 x3_1).f0).toList = ([99, 111, 110, 116, 101, 110, 116, 45, 108, 101, 110, 103, 116, 104] : List UInt8) then (some false) else (if ((rd_T88 l0 x3_1).f0).toList = ([116, 114, 97, 110, 115, 102, 101, 114, 45, 101, 110, 99, 111, 100, 105, 110, 103] : List UInt8) then (some false) else (spec_l3Heads.l0 k1 l0 (wrap64 (x3_1 + 1))))) else (some false))) else (some false)) = some r := H
     have A4 := Aside0.mk A40
     clear A40
     by_cases c5 : t133 = true
     ·subst c5
      rw [if_pos rfl] at H
      replace H := Option.bind_eq_some_iff.mp H
      obtain ⟨t135, A60, H⟩ := H
      replace H : (if t135 = true then (if ((rd_T88 l0 x3_1).f0).toList = ([99, 111, 110, 116, 101, 110, 116, 45, 108, 101, 110, 103, 116, 104] : List UInt8) then (some false) else (if ((rd_T88 l0 x3_1).f0).toList = ([116, 114, 97, 110, 115, 102, 101, 114, 45, 101, 110, 99, 111, 100, 105, 110, 103] : List UInt8) then (some false) else (spec_l3Heads.l0 k1 l0 (wrap64 (x3_1 + 1))))) else (some false)) = some r := H
      have A6 := Aside0.mk A60
      clear A60
      by_cases c7 : t135 = true
      ·subst c7
       rw [if_pos rfl] at H
       by_cases c8 : ((rd_T88 l0 x3_1).f0).toList = ([99, 111, 110, 116, 101, 110, 116, 45, 108, 101, 110, 103, 116, 104] : List UInt8)
       ·rw [if_pos c8] at H
        have c8b0 : (((rd_T88 l0 x3_1).f0).toList == ([99, 111, 110, 116, 101, 110, 116, 45, 108, 101, 110, 103, 116, 104] : List UInt8)) = true := beq_iff_eq.mpr c8
        have c8b1 : (((rd_T88 l0 x3_1).f0).toList != ([99, 111, 110, 116, 101, 110, 116, 45, 108, 101, 110, 103, 116, 104] : List UInt8)) = false := bne_eq_false_iff_eq.mpr c8
        clear c8
        obtain rfl := Option.some.inj H
        have p132 : 0 ≤ (x3_1 : Int) := of_decide_eq_true q4_
        have q132 : x3_1 < (l0.length : Int) := of_decide_eq_true q4_
        obtain ⟨ad132, e132, hx132_0, hx132_1⟩ := at_T88 HR0.1 x3_1 p132 q132
        cases e132
        replace p132 := eq_true p132
        replace q132 := eq_true q132
        go_wp2_with (first | ((with_reducible refine gate_callee (f := 140) rfl ?_); refine goesL_ (some 15) rfl rfl Tryz.func140 (by kernel_rfl) rfl #[.string ((rd_T88 l0 x3_1).f0)] rfl q2_ ?_; (with_reducible refine (spec_SmallName.calls k1 ((rd_T88 l0 x3_1).f0) true _ A4.1).mono ?_); rintro e w' ⟨rfl, ⟨nd, rfl⟩⟩; refine ⟨_, rfl, ?_⟩; have p134 : 0 ≤ (x3_1 : Int) := of_decide_eq_true q4_; have q134 : x3_1 < (l0.length : Int) := of_decide_eq_true q4_; obtain ⟨ad134, e134, hx134_0, hx134_1⟩ := at_T88 HR0.1 x3_1 p134 q134; obtain rfl : ad132 = ad134 := (by injection e134); replace p134 := eq_true p134; replace q134 := eq_true q134) | (go_at_call 141; (with_reducible refine (spec_l3Val.calls k1 ((rd_T88 l0 x3_1).f1) true _ A6.1).mono ?_); rintro e w' ⟨rfl, ⟨nd, rfl⟩⟩; have p136 : 0 ≤ (x3_1 : Int) := of_decide_eq_true q4_; have q136 : x3_1 < (l0.length : Int) := of_decide_eq_true q4_; obtain ⟨ad136, e136, hx136_0, hx136_1⟩ := at_T88 HR0.1 x3_1 p136 q136; obtain rfl : ad132 = ad136 := (by injection e136); replace p136 := eq_true p136; replace q136 := eq_true q136))
        go_ret
        exact ⟨q3_, q13_⟩
       ·rw [if_neg c8] at H
        have c8b0 : (((rd_T88 l0 x3_1).f0).toList == ([99, 111, 110, 116, 101, 110, 116, 45, 108, 101, 110, 103, 116, 104] : List UInt8)) = false := beq_eq_false_iff_ne.mpr c8
        have c8b1 : (((rd_T88 l0 x3_1).f0).toList != ([99, 111, 110, 116, 101, 110, 116, 45, 108, 101, 110, 103, 116, 104] : List UInt8)) = true := bne_iff_ne.mpr c8
        by_cases c9 : ((rd_T88 l0 x3_1).f0).toList = ([116, 114, 97, 110, 115, 102, 101, 114, 45, 101, 110, 99, 111, 100, 105, 110, 103] : List UInt8)
        ·rw [if_pos c9] at H
         have c9b0 : (((rd_T88 l0 x3_1).f0).toList == ([116, 114, 97, 110, 115, 102, 101, 114, 45, 101, 110, 99, 111, 100, 105, 110, 103] : List UInt8)) = true := beq_iff_eq.mpr c9
         have c9b1 : (((rd_T88 l0 x3_1).f0).toList != ([116, 114, 97, 110, 115, 102, 101, 114, 45, 101, 110, 99, 111, 100, 105, 110, 103] : List UInt8)) = false := bne_eq_false_iff_eq.mpr c9
         clear c9
         obtain rfl := Option.some.inj H
         have p132 : 0 ≤ (x3_1 : Int) := of_decide_eq_true q4_
         have q132 : x3_1 < (l0.length : Int) := of_decide_eq_true q4_
         obtain ⟨ad132, e132, hx132_0, hx132_1⟩ := at_T88 HR0.1 x3_1 p132 q132
         cases e132
         replace p132 := eq_true p132
         replace q132 := eq_true q132
         go_wp2_with (first | ((with_reducible refine gate_callee (f := 140) rfl ?_); refine goesL_ (some 15) rfl rfl Tryz.func140 (by kernel_rfl) rfl #[.string ((rd_T88 l0 x3_1).f0)] rfl q2_ ?_; (with_reducible refine (spec_SmallName.calls k1 ((rd_T88 l0 x3_1).f0) true _ A4.1).mono ?_); rintro e w' ⟨rfl, ⟨nd, rfl⟩⟩; refine ⟨_, rfl, ?_⟩; have p134 : 0 ≤ (x3_1 : Int) := of_decide_eq_true q4_; have q134 : x3_1 < (l0.length : Int) := of_decide_eq_true q4_; obtain ⟨ad134, e134, hx134_0, hx134_1⟩ := at_T88 HR0.1 x3_1 p134 q134; obtain rfl : ad132 = ad134 := (by injection e134); replace p134 := eq_true p134; replace q134 := eq_true q134) | (go_at_call 141; (with_reducible refine (spec_l3Val.calls k1 ((rd_T88 l0 x3_1).f1) true _ A6.1).mono ?_); rintro e w' ⟨rfl, ⟨nd, rfl⟩⟩; have p136 : 0 ≤ (x3_1 : Int) := of_decide_eq_true q4_; have q136 : x3_1 < (l0.length : Int) := of_decide_eq_true q4_; obtain ⟨ad136, e136, hx136_0, hx136_1⟩ := at_T88 HR0.1 x3_1 p136 q136; obtain rfl : ad132 = ad136 := (by injection e136); replace p136 := eq_true p136; replace q136 := eq_true q136; have p137 : 0 ≤ (x3_1 : Int) := of_decide_eq_true q4_; have q137 : x3_1 < (l0.length : Int) := of_decide_eq_true q4_; obtain ⟨ad137, e137, hx137_0, hx137_1⟩ := at_T88 HR0.1 x3_1 p137 q137; obtain rfl : ad132 = ad137 := (by injection e137); replace p137 := eq_true p137; replace q137 := eq_true q137))
         go_ret
         exact ⟨q3_, q13_⟩
        ·rw [if_neg c9] at H
         have c9b0 : (((rd_T88 l0 x3_1).f0).toList == ([116, 114, 97, 110, 115, 102, 101, 114, 45, 101, 110, 99, 111, 100, 105, 110, 103] : List UInt8)) = false := beq_eq_false_iff_ne.mpr c9
         have c9b1 : (((rd_T88 l0 x3_1).f0).toList != ([116, 114, 97, 110, 115, 102, 101, 114, 45, 101, 110, 99, 111, 100, 105, 110, 103] : List UInt8)) = true := bne_iff_ne.mpr c9
         have H' := Aside0.mk H
         clear H
         have p132 : 0 ≤ (x3_1 : Int) := of_decide_eq_true q4_
         have q132 : x3_1 < (l0.length : Int) := of_decide_eq_true q4_
         obtain ⟨ad132, e132, hx132_0, hx132_1⟩ := at_T88 HR0.1 x3_1 p132 q132
         cases e132
         replace p132 := eq_true p132
         replace q132 := eq_true q132
         go_wp2_with (first | ((with_reducible refine gate_callee (f := 140) rfl ?_); refine goesL_ (some 15) rfl rfl Tryz.func140 (by kernel_rfl) rfl #[.string ((rd_T88 l0 x3_1).f0)] rfl q2_ ?_; (with_reducible refine (spec_SmallName.calls k1 ((rd_T88 l0 x3_1).f0) true _ A4.1).mono ?_); rintro e w' ⟨rfl, ⟨nd, rfl⟩⟩; refine ⟨_, rfl, ?_⟩; have p134 : 0 ≤ (x3_1 : Int) := of_decide_eq_true q4_; have q134 : x3_1 < (l0.length : Int) := of_decide_eq_true q4_; obtain ⟨ad134, e134, hx134_0, hx134_1⟩ := at_T88 HR0.1 x3_1 p134 q134; obtain rfl : ad132 = ad134 := (by injection e134); replace p134 := eq_true p134; replace q134 := eq_true q134) | (go_at_call 141; (with_reducible refine (spec_l3Val.calls k1 ((rd_T88 l0 x3_1).f1) true _ A6.1).mono ?_); rintro e w' ⟨rfl, ⟨nd, rfl⟩⟩; have p136 : 0 ≤ (x3_1 : Int) := of_decide_eq_true q4_; have q136 : x3_1 < (l0.length : Int) := of_decide_eq_true q4_; obtain ⟨ad136, e136, hx136_0, hx136_1⟩ := at_T88 HR0.1 x3_1 p136 q136; obtain rfl : ad132 = ad136 := (by injection e136); replace p136 := eq_true p136; replace q136 := eq_true q136; have p137 : 0 ≤ (x3_1 : Int) := of_decide_eq_true q4_; have q137 : x3_1 < (l0.length : Int) := of_decide_eq_true q4_; obtain ⟨ad137, e137, hx137_0, hx137_1⟩ := at_T88 HR0.1 x3_1 p137 q137; obtain rfl : ad132 = ad137 := (by injection e137); replace p137 := eq_true p137; replace q137 := eq_true q137))
         go_roundg k1
         case measure => have := HK1.1; omega
         case rel => exact ⟨(wrap64 (x3_1 + 1)), q3_, H', ⟨q85_⟩, q13_⟩
      ·replace c7 := Bool.eq_false_iff.mpr c7
       subst c7
       rw [if_neg (show ¬ (false = true) by decide)] at H
       obtain rfl := Option.some.inj H
       have p132 : 0 ≤ (x3_1 : Int) := of_decide_eq_true q4_
       have q132 : x3_1 < (l0.length : Int) := of_decide_eq_true q4_
       obtain ⟨ad132, e132, hx132_0, hx132_1⟩ := at_T88 HR0.1 x3_1 p132 q132
       cases e132
       replace p132 := eq_true p132
       replace q132 := eq_true q132
       go_wp2_with (first | ((with_reducible refine gate_callee (f := 140) rfl ?_); refine goesL_ (some 15) rfl rfl Tryz.func140 (by kernel_rfl) rfl #[.string ((rd_T88 l0 x3_1).f0)] rfl q2_ ?_; (with_reducible refine (spec_SmallName.calls k1 ((rd_T88 l0 x3_1).f0) true _ A4.1).mono ?_); rintro e w' ⟨rfl, ⟨nd, rfl⟩⟩; refine ⟨_, rfl, ?_⟩; have p134 : 0 ≤ (x3_1 : Int) := of_decide_eq_true q4_; have q134 : x3_1 < (l0.length : Int) := of_decide_eq_true q4_; obtain ⟨ad134, e134, hx134_0, hx134_1⟩ := at_T88 HR0.1 x3_1 p134 q134; obtain rfl : ad132 = ad134 := (by injection e134); replace p134 := eq_true p134; replace q134 := eq_true q134) | (go_at_call 141; (with_reducible refine (spec_l3Val.calls k1 ((rd_T88 l0 x3_1).f1) false _ A6.1).mono ?_); rintro e w' ⟨rfl, ⟨nd, rfl⟩⟩))
       go_ret
       exact ⟨q3_, q13_⟩
     ·replace c5 := Bool.eq_false_iff.mpr c5
      subst c5
      rw [if_neg (show ¬ (false = true) by decide)] at H
      obtain rfl := Option.some.inj H
      have p132 : 0 ≤ (x3_1 : Int) := of_decide_eq_true q4_
      have q132 : x3_1 < (l0.length : Int) := of_decide_eq_true q4_
      obtain ⟨ad132, e132, hx132_0, hx132_1⟩ := at_T88 HR0.1 x3_1 p132 q132
      cases e132
      replace p132 := eq_true p132
      replace q132 := eq_true q132
      go_wp2_with (first | ((with_reducible refine gate_callee (f := 140) rfl ?_); refine goesL_ (some 15) rfl rfl Tryz.func140 (by kernel_rfl) rfl #[.string ((rd_T88 l0 x3_1).f0)] rfl q2_ ?_; (with_reducible refine (spec_SmallName.calls k1 ((rd_T88 l0 x3_1).f0) false _ A4.1).mono ?_); rintro e w' ⟨rfl, ⟨nd, rfl⟩⟩; refine ⟨_, rfl, ?_⟩))
      go_ret
      exact ⟨q3_, q13_⟩
    ·rw [if_neg c3] at H
     exact absurd H (by simp)
   ·rw [if_neg c2] at H
    have c2b0 : decide (x3_1 < (l0.length : Int)) = false := decide_eq_false c2
    clear c2
    obtain rfl := Option.some.inj H
    go_wp2
    go_ret
    exact ⟨q3_, q13_⟩

def spec_l1Large.f (a0 : Int) : Option (Bool) := (spec_l1In.f (wrap64 (a0)) 65 90).bind fun t138 => (some t138)
theorem spec_l1Large.calls (a0 : Int) (r : Bool) (w : World) (h : spec_l1Large.f a0 = some r) :
  Calls Tryz.prog 194 #[.int .u8 a0] w fun e w' => e = .returned (.bool r) ∧ Drawn0 w w' := by
 have H : ((spec_l1In.f (wrap64 (a0)) 65 90).bind fun t138 => (some t138)) = some r := h
 clear h
 replace H := Option.bind_eq_some_iff.mp H
 obtain ⟨t138, A20, H⟩ := H
 replace H : (some t138) = some r := H
 have A2 := Aside0.mk A20
 clear A20
 obtain rfl := Option.some.inj H
 go_enter Tryz.func194, Tryz.ntmps194
 go_wp2_with (first | ((with_reducible refine gate_callee (f := 97) rfl ?_); refine goesL_ (some 5) rfl rfl Tryz.func97 (by kernel_rfl) rfl #[.int .i64 (wrap64 (a0)), .int .i64 65, .int .i64 90] rfl q2_ ?_; (with_reducible refine (spec_l1In.calls (wrap64 (a0)) 65 90 t138 _ A2.1).mono ?_); rintro e w' ⟨rfl, ⟨nd, rfl⟩⟩; refine ⟨_, rfl, ?_⟩))
 go_ret
 exact ⟨q3_, q13_⟩

def spec_l3Method.l0 : Nat → ByteArray → Int → Option (Bool)
 | 0, _, _ => none
 | k + 1, x0, x3 => if x3 < (x0.size : Int) then (if 0 ≤ x3 then ((spec_l1Large.f (bt x0 x3)).bind fun t139 => (if t139 = true then (spec_l3Method.l0 k x0 (wrap64 (x3 + 1))) else (some false))) else (none)) else ((spec_l1In.f (x0.size : Int) 1 9).bind fun t140 => (some t140))
def spec_l3Method.f (k : Nat) (a0 : ByteArray) : Option (Bool) := spec_l3Method.l0 k a0 0

theorem spec_l3Method.calls (k : Nat) (a0 : ByteArray) (r : Bool) (w : World) (h : spec_l3Method.f k a0 = some r) :
  Calls Tryz.prog 173 #[.string a0] w fun e w' => e = .returned (.bool r) ∧ Drawn0 w w' := by
 have H : (spec_l3Method.l0 k a0 0) = some r := h
 clear h
 have H' := Aside0.mk H
 clear H
 go_enter Tryz.func173, Tryz.ntmps173
 go_wp2
 go_loopg [3] k (fun kq v3 w' => ∃ (x3_1 : Int), v3 = .int .i64 x3_1 ∧ Aside0 (spec_l3Method.l0 kq a0 x3_1 = some r) ∧ Aside0 (kq ≤ k) ∧ Drawn0 w w')
 case atStart => exact ⟨(0), q3_, H', ⟨Nat.le_refl _⟩, q13_⟩
 case round =>
  clear H'
  try clear c1
  obtain ⟨x3_1, rfl, HA, HK1, ⟨m1, rfl⟩⟩ := hrel
  cases gk with
  | zero => exact absurd HA.1 (by simp [spec_l3Method.l0])
  | succ k1 =>
   have H := HA.1
   clear HA
   simp only [spec_l3Method.l0] at H
   by_cases c2 : x3_1 < (a0.size : Int)
   ·rw [if_pos c2] at H
    have c2b0 : decide (x3_1 < (a0.size : Int)) = true := decide_eq_true c2
    clear c2
    by_cases c3 : 0 ≤ x3_1
    ·rw [if_pos c3] at H
     have c3b0 : decide (0 ≤ x3_1) = true := decide_eq_true c3
     clear c3
     replace H := Option.bind_eq_some_iff.mp H
     obtain ⟨t139, A50, H⟩ := H
     replace H : (if t139 = true then (spec_l3Method.l0 k1 a0 (wrap64 (x3_1 + 1))) else (some false)) = some r := H
     have A5 := Aside0.mk A50
     clear A50
     by_cases c6 : t139 = true
     ·subst c6
      rw [if_pos rfl] at H
      have H' := Aside0.mk H
      clear H
      have p4 : 0 ≤ (x3_1 : Int) := of_decide_eq_true q4_
      have q4 : x3_1 < (a0.size : Int) := of_decide_eq_true q4_
      have hx4 := bt_at a0 x3_1
      replace p4 := eq_true p4
      replace q4 := eq_true q4
      go_wp2_with (first | ((with_reducible refine gate_callee (f := 194) rfl ?_); refine goesL_ (some 13) rfl rfl Tryz.func194 (by kernel_rfl) rfl #[.int .u8 (bt a0 x3_1)] rfl q2_ ?_; (with_reducible refine (spec_l1Large.calls (bt a0 x3_1) true _ A5.1).mono ?_); rintro e w' ⟨rfl, ⟨nd, rfl⟩⟩; refine ⟨_, rfl, ?_⟩))
      go_roundg k1
      case measure => have := HK1.1; omega
      case rel => exact ⟨(wrap64 (x3_1 + 1)), q3_, H', ⟨q85_⟩, q13_⟩
     ·replace c6 := Bool.eq_false_iff.mpr c6
      subst c6
      rw [if_neg (show ¬ (false = true) by decide)] at H
      obtain rfl := Option.some.inj H
      have p4 : 0 ≤ (x3_1 : Int) := of_decide_eq_true q4_
      have q4 : x3_1 < (a0.size : Int) := of_decide_eq_true q4_
      have hx4 := bt_at a0 x3_1
      replace p4 := eq_true p4
      replace q4 := eq_true q4
      go_wp2_with (first | ((with_reducible refine gate_callee (f := 194) rfl ?_); refine goesL_ (some 13) rfl rfl Tryz.func194 (by kernel_rfl) rfl #[.int .u8 (bt a0 x3_1)] rfl q2_ ?_; (with_reducible refine (spec_l1Large.calls (bt a0 x3_1) false _ A5.1).mono ?_); rintro e w' ⟨rfl, ⟨nd, rfl⟩⟩; refine ⟨_, rfl, ?_⟩))
      go_ret
      exact ⟨q3_, q13_⟩
    ·rw [if_neg c3] at H
     exact absurd H (by simp)
   ·rw [if_neg c2] at H
    have c2b0 : decide (x3_1 < (a0.size : Int)) = false := decide_eq_false c2
    clear c2
    replace H := Option.bind_eq_some_iff.mp H
    obtain ⟨t140, A70, H⟩ := H
    replace H : (some t140) = some r := H
    have A7 := Aside0.mk A70
    clear A70
    obtain rfl := Option.some.inj H
    go_wp2_with (first | ((with_reducible refine gate_callee (f := 97) rfl ?_); refine goesL_ (some 17) rfl rfl Tryz.func97 (by kernel_rfl) rfl #[.int .i64 (a0.size : Int), .int .i64 1, .int .i64 9] rfl q2_ ?_; (with_reducible refine (spec_l1In.calls (a0.size : Int) 1 9 t140 _ A7.1).mono ?_); rintro e w' ⟨rfl, ⟨nd, rfl⟩⟩; refine ⟨_, rfl, ?_⟩))
    go_ret
    exact ⟨q3_, q13_⟩

def spec_l3Target.l0 : Nat → ByteArray → Int → Option (Bool)
 | 0, _, _ => none
 | k + 1, x0, x3 => if x3 < (x0.size : Int) then (if 0 ≤ x3 then ((spec_l1In.f (wrap64 (bt x0 x3)) 33 126).bind fun t141 => (if t141 = true then (spec_l3Target.l0 k x0 (wrap64 (x3 + 1))) else (some false))) else (none)) else ((spec_l1In.f (x0.size : Int) 1 80).bind fun t142 => (some t142))
def spec_l3Target.f (k : Nat) (a0 : ByteArray) : Option (Bool) := spec_l3Target.l0 k a0 0

theorem spec_l3Target.calls (k : Nat) (a0 : ByteArray) (r : Bool) (w : World) (h : spec_l3Target.f k a0 = some r) :
  Calls Tryz.prog 174 #[.string a0] w fun e w' => e = .returned (.bool r) ∧ Drawn0 w w' := by
 have H : (spec_l3Target.l0 k a0 0) = some r := h
 clear h
 have H' := Aside0.mk H
 clear H
 go_enter Tryz.func174, Tryz.ntmps174
 go_wp2
 go_loopg [3] k (fun kq v3 w' => ∃ (x3_1 : Int), v3 = .int .i64 x3_1 ∧ Aside0 (spec_l3Target.l0 kq a0 x3_1 = some r) ∧ Aside0 (kq ≤ k) ∧ Drawn0 w w')
 case atStart => exact ⟨(0), q3_, H', ⟨Nat.le_refl _⟩, q13_⟩
 case round =>
  clear H'
  try clear c1
  obtain ⟨x3_1, rfl, HA, HK1, ⟨m1, rfl⟩⟩ := hrel
  cases gk with
  | zero => exact absurd HA.1 (by simp [spec_l3Target.l0])
  | succ k1 =>
   have H := HA.1
   clear HA
   simp only [spec_l3Target.l0] at H
   by_cases c2 : x3_1 < (a0.size : Int)
   ·rw [if_pos c2] at H
    have c2b0 : decide (x3_1 < (a0.size : Int)) = true := decide_eq_true c2
    clear c2
    by_cases c3 : 0 ≤ x3_1
    ·rw [if_pos c3] at H
     have c3b0 : decide (0 ≤ x3_1) = true := decide_eq_true c3
     clear c3
     replace H := Option.bind_eq_some_iff.mp H
     obtain ⟨t141, A50, H⟩ := H
     replace H : (if t141 = true then (spec_l3Target.l0 k1 a0 (wrap64 (x3_1 + 1))) else (some false)) = some r := H
     have A5 := Aside0.mk A50
     clear A50
     by_cases c6 : t141 = true
     ·subst c6
      rw [if_pos rfl] at H
      have H' := Aside0.mk H
      clear H
      have p4 : 0 ≤ (x3_1 : Int) := of_decide_eq_true q4_
      have q4 : x3_1 < (a0.size : Int) := of_decide_eq_true q4_
      have hx4 := bt_at a0 x3_1
      replace p4 := eq_true p4
      replace q4 := eq_true q4
      go_wp2_with (first | ((with_reducible refine gate_callee (f := 97) rfl ?_); refine goesL_ (some 14) rfl rfl Tryz.func97 (by kernel_rfl) rfl #[.int .i64 (wrap64 (bt a0 x3_1)), .int .i64 33, .int .i64 126] rfl q2_ ?_; (with_reducible refine (spec_l1In.calls (wrap64 (bt a0 x3_1)) 33 126 true _ A5.1).mono ?_); rintro e w' ⟨rfl, ⟨nd, rfl⟩⟩; refine ⟨_, rfl, ?_⟩))
      go_roundg k1
      case measure => have := HK1.1; omega
      case rel => exact ⟨(wrap64 (x3_1 + 1)), q3_, H', ⟨q85_⟩, q13_⟩
     ·replace c6 := Bool.eq_false_iff.mpr c6
      subst c6
      rw [if_neg (show ¬ (false = true) by decide)] at H
      obtain rfl := Option.some.inj H
      have p4 : 0 ≤ (x3_1 : Int) := of_decide_eq_true q4_
      have q4 : x3_1 < (a0.size : Int) := of_decide_eq_true q4_
      have hx4 := bt_at a0 x3_1
      replace p4 := eq_true p4
      replace q4 := eq_true q4
      go_wp2_with (first | ((with_reducible refine gate_callee (f := 97) rfl ?_); refine goesL_ (some 14) rfl rfl Tryz.func97 (by kernel_rfl) rfl #[.int .i64 (wrap64 (bt a0 x3_1)), .int .i64 33, .int .i64 126] rfl q2_ ?_; (with_reducible refine (spec_l1In.calls (wrap64 (bt a0 x3_1)) 33 126 false _ A5.1).mono ?_); rintro e w' ⟨rfl, ⟨nd, rfl⟩⟩; refine ⟨_, rfl, ?_⟩))
      go_ret
      exact ⟨q3_, q13_⟩
    ·rw [if_neg c3] at H
     exact absurd H (by simp)
   ·rw [if_neg c2] at H
    have c2b0 : decide (x3_1 < (a0.size : Int)) = false := decide_eq_false c2
    clear c2
    replace H := Option.bind_eq_some_iff.mp H
    obtain ⟨t142, A70, H⟩ := H
    replace H : (some t142) = some r := H
    have A7 := Aside0.mk A70
    clear A70
    obtain rfl := Option.some.inj H
    go_wp2_with (first | ((with_reducible refine gate_callee (f := 97) rfl ?_); refine goesL_ (some 18) rfl rfl Tryz.func97 (by kernel_rfl) rfl #[.int .i64 (a0.size : Int), .int .i64 1, .int .i64 80] rfl q2_ ?_; (with_reducible refine (spec_l1In.calls (a0.size : Int) 1 80 t142 _ A7.1).mono ?_); rintro e w' ⟨rfl, ⟨nd, rfl⟩⟩; refine ⟨_, rfl, ?_⟩))
    go_ret
    exact ⟨q3_, q13_⟩

def spec_ReqOk.f (k : Nat) (a0_0 : ByteArray) (a0_1 : ByteArray) (l0_2 : List (S88)) (a0_3 : ByteArray) : Option (Bool) := (spec_l3Method.f k a0_0).bind fun t144 => (if t144 = true then ((spec_l3Target.f k a0_1).bind fun t145 => (if t145 = true then ((spec_l3Heads.f k l0_2).bind fun t146 => (if t146 = true then (some (decide ((a0_3.size : Int) ≤ 200))) else (some false))) else (some false))) else (some false))

theorem spec_ReqOk.calls (k : Nat) (a0_0 : ByteArray) (a0_1 : ByteArray) (A0_2 : Option Addr) (c0_2 : Nat) (l0_2 : List (S88)) (a0_3 : ByteArray) (r : Bool) (w : World) (hr0_2 : Kd.C k88 w A0_2 l0_2.length l0_2) (hc0_2 : l0_2.length ≤ c0_2) (h : spec_ReqOk.f k a0_0 a0_1 l0_2 a0_3 = some r) :
  Calls Tryz.prog 146 #[.agg #[.string a0_0, .string a0_1, .slice A0_2 l0_2.length c0_2, .string a0_3]] w fun e w' => e = .returned (.bool r) ∧ Below w.heap.size w w' := by
 have hu64 := Tryz.underlying64
 have HR0_2 := Aside0.mk hr0_2
 have HC0_2 := Aside0.mk hc0_2
 clear hr0_2 hc0_2
 have HB := Aside0.mk (Below.refl w.heap.size w)
 have H : ((spec_l3Method.f k a0_0).bind fun t144 => (if t144 = true then ((spec_l3Target.f k a0_1).bind fun t145 => (if t145 = true then ((spec_l3Heads.f k l0_2).bind fun t146 => (if t146 = true then (some (decide ((a0_3.size : Int) ≤ 200))) else (some false))) else (some false))) else (some false))) = some r := h
 clear h
 replace H := Option.bind_eq_some_iff.mp H
 obtain ⟨t144, A20, H⟩ := H
 replace H : (if t144 = true then ((spec_l3Target.f k a0_1).bind fun t145 => (if t145 = true then ((spec_l3Heads.f k l0_2).bind fun t146 => (if t146 = true then (some (decide ((a0_3.size : Int) ≤ 200))) else (some false))) else (some false))) else (some false)) = some r := H
 have A2 := Aside0.mk A20
 clear A20
 by_cases c3 : t144 = true
 ·subst c3
  rw [if_pos rfl] at H
  replace H := Option.bind_eq_some_iff.mp H
  obtain ⟨t145, A40, H⟩ := H
  replace H : (if t145 = true then ((spec_l3Heads.f k l0_2).bind fun t146 => (if t146 = true then (some (decide ((a0_3.size : Int) ≤ 200))) else (some false))) else (some false)) = some r := H
  have A4 := Aside0.mk A40
  clear A40
  by_cases c5 : t145 = true
  ·subst c5
   rw [if_pos rfl] at H
   replace H := Option.bind_eq_some_iff.mp H
   obtain ⟨t146, A60, H⟩ := H
   replace H : (if t146 = true then (some (decide ((a0_3.size : Int) ≤ 200))) else (some false)) = some r := H
   have A6 := Aside0.mk A60
   clear A60
   by_cases c7 : t146 = true
   ·subst c7
    rw [if_pos rfl] at H
    obtain rfl := Option.some.inj H
    go_enter Tryz.func146, Tryz.ntmps146
    go_wp2_with (first | ((with_reducible refine gate_dst (N := 1) rfl ?_); (try (refine gate_guard (by rfl) ?_; dsimp only)); refine box_event ?hg (N := 1) ?hd (cs := #[.string a0_0, .string a0_1, .slice A0_2 l0_2.length c0_2, .string a0_3]) (t := 64) ?hr ?_; (case hd => rfl); (case hg => rfl); (case hr => exact q26_); intro gb143 hg w8 hbox hb; have n0_ := Aside0.mk (below_step q1_ hb); have n1_ := Aside0.mk (hbox); have n2_ := Aside0.mk ((q40_ : w.heap.size ≤ gb143)); have n3_ := Aside0.mk ((q40_ : w.heap.size ≤ gb143)); clear HB; have HB := n0_; have BK143 := n1_; have GW143 := n2_; have GE143 := n3_; clear n0_ n1_ n2_ n3_; clear hb hbox hg; have hcz9_0 : w8.cell? ⟨gb143, 0, none⟩ = some (.string a0_0) := (bc_ BK143.1 0).trans rfl; have hcz9_1 : w8.cell? ⟨gb143, 1, none⟩ = some (.string a0_1) := (bc_ BK143.1 1).trans rfl; have hcz9_2 : w8.cell? ⟨gb143, 2, none⟩ = some (.slice A0_2 l0_2.length c0_2) := (bc_ BK143.1 2).trans rfl; have hcz9_3 : w8.cell? ⟨gb143, 3, none⟩ = some (.string a0_3) := (bc_ BK143.1 3).trans rfl; have hfz9_0 := bF_ BK143.1 0; have hfz9_1 := bF_ BK143.1 1; have hfz9_2 := bF_ BK143.1 2; have hfz9_3 := bF_ BK143.1 3) | ((with_reducible refine gate_callee (f := 173) rfl ?_); refine goesL_ (some 5) rfl rfl Tryz.func173 (by kernel_rfl) rfl #[.string a0_0] rfl q2_ ?_; (with_reducible refine (spec_l3Method.calls k a0_0 true _ A2.1).mono ?_); rintro e w' ⟨rfl, ⟨nd, rfl⟩⟩; refine ⟨_, rfl, ?_⟩) | (go_at_call 174; (with_reducible refine (spec_l3Target.calls k a0_1 true _ A4.1).mono ?_); rintro e w' ⟨rfl, ⟨nd, rfl⟩⟩) | (go_at_call 98; (with_reducible refine (spec_l3Heads.calls k _ _ l0_2 true _ ?side1 ?side2 A6.1).mono ?_); (case side1 => exact q120_); (case side2 => exact q103_); rintro e w' ⟨rfl, ⟨nd, rfl⟩⟩))
    go_ret
    exact ⟨q10_, q62_⟩
   ·replace c7 := Bool.eq_false_iff.mpr c7
    subst c7
    rw [if_neg (show ¬ (false = true) by decide)] at H
    obtain rfl := Option.some.inj H
    go_enter Tryz.func146, Tryz.ntmps146
    go_wp2_with (first | ((with_reducible refine gate_dst (N := 1) rfl ?_); (try (refine gate_guard (by rfl) ?_; dsimp only)); refine box_event ?hg (N := 1) ?hd (cs := #[.string a0_0, .string a0_1, .slice A0_2 l0_2.length c0_2, .string a0_3]) (t := 64) ?hr ?_; (case hd => rfl); (case hg => rfl); (case hr => exact q26_); intro gb143 hg w10 hbox hb; have n0_ := Aside0.mk (below_step q1_ hb); have n1_ := Aside0.mk (hbox); have n2_ := Aside0.mk ((q40_ : w.heap.size ≤ gb143)); have n3_ := Aside0.mk ((q40_ : w.heap.size ≤ gb143)); clear HB; have HB := n0_; have BK143 := n1_; have GW143 := n2_; have GE143 := n3_; clear n0_ n1_ n2_ n3_; clear hb hbox hg; have hcz11_0 : w10.cell? ⟨gb143, 0, none⟩ = some (.string a0_0) := (bc_ BK143.1 0).trans rfl; have hcz11_1 : w10.cell? ⟨gb143, 1, none⟩ = some (.string a0_1) := (bc_ BK143.1 1).trans rfl; have hcz11_2 : w10.cell? ⟨gb143, 2, none⟩ = some (.slice A0_2 l0_2.length c0_2) := (bc_ BK143.1 2).trans rfl; have hcz11_3 : w10.cell? ⟨gb143, 3, none⟩ = some (.string a0_3) := (bc_ BK143.1 3).trans rfl; have hfz11_0 := bF_ BK143.1 0; have hfz11_1 := bF_ BK143.1 1; have hfz11_2 := bF_ BK143.1 2; have hfz11_3 := bF_ BK143.1 3) | ((with_reducible refine gate_callee (f := 173) rfl ?_); refine goesL_ (some 5) rfl rfl Tryz.func173 (by kernel_rfl) rfl #[.string a0_0] rfl q2_ ?_; (with_reducible refine (spec_l3Method.calls k a0_0 true _ A2.1).mono ?_); rintro e w' ⟨rfl, ⟨nd, rfl⟩⟩; refine ⟨_, rfl, ?_⟩) | (go_at_call 174; (with_reducible refine (spec_l3Target.calls k a0_1 true _ A4.1).mono ?_); rintro e w' ⟨rfl, ⟨nd, rfl⟩⟩) | (go_at_call 98; (with_reducible refine (spec_l3Heads.calls k _ _ l0_2 false _ ?side1 ?side2 A6.1).mono ?_); (case side1 => exact q120_); (case side2 => exact q103_); rintro e w' ⟨rfl, ⟨nd, rfl⟩⟩))
    go_ret
    exact ⟨q10_, q62_⟩
  ·replace c5 := Bool.eq_false_iff.mpr c5
   subst c5
   rw [if_neg (show ¬ (false = true) by decide)] at H
   obtain rfl := Option.some.inj H
   go_enter Tryz.func146, Tryz.ntmps146
   go_wp2_with (first | ((with_reducible refine gate_dst (N := 1) rfl ?_); (try (refine gate_guard (by rfl) ?_; dsimp only)); refine box_event ?hg (N := 1) ?hd (cs := #[.string a0_0, .string a0_1, .slice A0_2 l0_2.length c0_2, .string a0_3]) (t := 64) ?hr ?_; (case hd => rfl); (case hg => rfl); (case hr => exact q26_); intro gb143 hg w12 hbox hb; have n0_ := Aside0.mk (below_step q1_ hb); have n1_ := Aside0.mk (hbox); have n2_ := Aside0.mk ((q40_ : w.heap.size ≤ gb143)); have n3_ := Aside0.mk ((q40_ : w.heap.size ≤ gb143)); clear HB; have HB := n0_; have BK143 := n1_; have GW143 := n2_; have GE143 := n3_; clear n0_ n1_ n2_ n3_; clear hb hbox hg; have hcz13_0 : w12.cell? ⟨gb143, 0, none⟩ = some (.string a0_0) := (bc_ BK143.1 0).trans rfl; have hcz13_1 : w12.cell? ⟨gb143, 1, none⟩ = some (.string a0_1) := (bc_ BK143.1 1).trans rfl; have hcz13_2 : w12.cell? ⟨gb143, 2, none⟩ = some (.slice A0_2 l0_2.length c0_2) := (bc_ BK143.1 2).trans rfl; have hcz13_3 : w12.cell? ⟨gb143, 3, none⟩ = some (.string a0_3) := (bc_ BK143.1 3).trans rfl; have hfz13_0 := bF_ BK143.1 0; have hfz13_1 := bF_ BK143.1 1; have hfz13_2 := bF_ BK143.1 2; have hfz13_3 := bF_ BK143.1 3) | ((with_reducible refine gate_callee (f := 173) rfl ?_); refine goesL_ (some 5) rfl rfl Tryz.func173 (by kernel_rfl) rfl #[.string a0_0] rfl q2_ ?_; (with_reducible refine (spec_l3Method.calls k a0_0 true _ A2.1).mono ?_); rintro e w' ⟨rfl, ⟨nd, rfl⟩⟩; refine ⟨_, rfl, ?_⟩) | (go_at_call 174; (with_reducible refine (spec_l3Target.calls k a0_1 false _ A4.1).mono ?_); rintro e w' ⟨rfl, ⟨nd, rfl⟩⟩))
   go_ret
   exact ⟨q10_, q62_⟩
 ·replace c3 := Bool.eq_false_iff.mpr c3
  subst c3
  rw [if_neg (show ¬ (false = true) by decide)] at H
  obtain rfl := Option.some.inj H
  go_enter Tryz.func146, Tryz.ntmps146
  go_wp2_with (first | ((with_reducible refine gate_dst (N := 1) rfl ?_); (try (refine gate_guard (by rfl) ?_; dsimp only)); refine box_event ?hg (N := 1) ?hd (cs := #[.string a0_0, .string a0_1, .slice A0_2 l0_2.length c0_2, .string a0_3]) (t := 64) ?hr ?_; (case hd => rfl); (case hg => rfl); (case hr => exact q26_); intro gb143 hg w14 hbox hb; have n0_ := Aside0.mk (below_step q1_ hb); have n1_ := Aside0.mk (hbox); have n2_ := Aside0.mk ((q40_ : w.heap.size ≤ gb143)); have n3_ := Aside0.mk ((q40_ : w.heap.size ≤ gb143)); clear HB; have HB := n0_; have BK143 := n1_; have GW143 := n2_; have GE143 := n3_; clear n0_ n1_ n2_ n3_; clear hb hbox hg; have hcz15_0 : w14.cell? ⟨gb143, 0, none⟩ = some (.string a0_0) := (bc_ BK143.1 0).trans rfl; have hcz15_1 : w14.cell? ⟨gb143, 1, none⟩ = some (.string a0_1) := (bc_ BK143.1 1).trans rfl; have hcz15_2 : w14.cell? ⟨gb143, 2, none⟩ = some (.slice A0_2 l0_2.length c0_2) := (bc_ BK143.1 2).trans rfl; have hcz15_3 : w14.cell? ⟨gb143, 3, none⟩ = some (.string a0_3) := (bc_ BK143.1 3).trans rfl; have hfz15_0 := bF_ BK143.1 0; have hfz15_1 := bF_ BK143.1 1; have hfz15_2 := bF_ BK143.1 2; have hfz15_3 := bF_ BK143.1 3) | ((with_reducible refine gate_callee (f := 173) rfl ?_); refine goesL_ (some 5) rfl rfl Tryz.func173 (by kernel_rfl) rfl #[.string a0_0] rfl q2_ ?_; (with_reducible refine (spec_l3Method.calls k a0_0 false _ A2.1).mono ?_); rintro e w' ⟨rfl, ⟨nd, rfl⟩⟩; refine ⟨_, rfl, ?_⟩))
  go_ret
  exact ⟨q10_, q62_⟩

def spec_l3Put.f (k : Nat) (a0_0 : ByteArray) (a0_1 : ByteArray) (l0_2 : List (S88)) (a0_3 : ByteArray) (a1 : ByteArray) (a2 : ByteArray) : Option (List Int) := if a0_0.size + 1 ≤ 9223372036854775807 then (if (a0_0 ++ (⟨#[32]⟩ : ByteArray)).size + a0_1.size ≤ 9223372036854775807 then (if ((a0_0 ++ (⟨#[32]⟩ : ByteArray)) ++ a0_1).size + 9 ≤ 9223372036854775807 then (if (((a0_0 ++ (⟨#[32]⟩ : ByteArray)) ++ a0_1) ++ (⟨#[32, 72, 84, 84, 80, 47, 49, 46, 49]⟩ : ByteArray)).size + 2 ≤ 9223372036854775807 then ((spec_l3HeadsText.f k l0_2).bind fun t148 => (if ((((a0_0 ++ (⟨#[32]⟩ : ByteArray)) ++ a0_1) ++ (⟨#[32, 72, 84, 84, 80, 47, 49, 46, 49]⟩ : ByteArray)) ++ (⟨#[13, 10]⟩ : ByteArray)).size + t148.size ≤ 9223372036854775807 then (if (((((a0_0 ++ (⟨#[32]⟩ : ByteArray)) ++ a0_1) ++ (⟨#[32, 72, 84, 84, 80, 47, 49, 46, 49]⟩ : ByteArray)) ++ (⟨#[13, 10]⟩ : ByteArray)) ++ t148).size + a1.size ≤ 9223372036854775807 then (if ((((((a0_0 ++ (⟨#[32]⟩ : ByteArray)) ++ a0_1) ++ (⟨#[32, 72, 84, 84, 80, 47, 49, 46, 49]⟩ : ByteArray)) ++ (⟨#[13, 10]⟩ : ByteArray)) ++ t148) ++ a1).size + 2 ≤ 9223372036854775807 then ((spec_ReqOk.f k a0_0 a0_1 l0_2 a0_3).bind fun t149 => (if t149 = true then (if ((((((((a0_0 ++ (⟨#[32]⟩ : ByteArray)) ++ a0_1) ++ (⟨#[32, 72, 84, 84, 80, 47, 49, 46, 49]⟩ : ByteArray)) ++ (⟨#[13, 10]⟩ : ByteArray)) ++ t148) ++ a1) ++ (⟨#[13, 10]⟩ : ByteArray)).size : Int) > 400 then (some (([] : List Int))) else (if (((((((a0_0 ++ (⟨#[32]⟩ : ByteArray)) ++ a0_1) ++ (⟨#[32, 72, 84, 84, 80, 47, 49, 46, 49]⟩ : ByteArray)) ++ (⟨#[13, 10]⟩ : ByteArray)) ++ t148) ++ a1) ++ (⟨#[13, 10]⟩ : ByteArray)).size + a2.size ≤ 9223372036854775807 then (if ((((((((a0_0 ++ (⟨#[32]⟩ : ByteArray)) ++ a0_1) ++ (⟨#[32, 72, 84, 84, 80, 47, 49, 46, 49]⟩ : ByteArray)) ++ (⟨#[13, 10]⟩ : ByteArray)) ++ t148) ++ a1) ++ (⟨#[13, 10]⟩ : ByteArray)) ++ a2).size < 140737488355328 then (some (bytesOf ((((((((a0_0 ++ (⟨#[32]⟩ : ByteArray)) ++ a0_1) ++ (⟨#[32, 72, 84, 84, 80, 47, 49, 46, 49]⟩ : ByteArray)) ++ (⟨#[13, 10]⟩ : ByteArray)) ++ t148) ++ a1) ++ (⟨#[13, 10]⟩ : ByteArray)) ++ a2))) else (none)) else (none))) else (some (([] : List Int))))) else (none)) else (none)) else (none))) else (none)) else (none)) else (none)) else (none)

theorem spec_l3Put.calls (k : Nat) (a0_0 : ByteArray) (a0_1 : ByteArray) (A0_2 : Option Addr) (c0_2 : Nat) (l0_2 : List (S88)) (a0_3 : ByteArray) (a1 : ByteArray) (a2 : ByteArray) (r : List Int) (w : World) (hr0_2 : Kd.C k88 w A0_2 l0_2.length l0_2) (hc0_2 : l0_2.length ≤ c0_2) (h : spec_l3Put.f k a0_0 a0_1 l0_2 a0_3 a1 a2 = some r) :
  Calls Tryz.prog 113 #[.agg #[.string a0_0, .string a0_1, .slice A0_2 l0_2.length c0_2, .string a0_3], .string a1, .string a2] w fun e w' => ∃ v0_ : Value, e = .returned (v0_) ∧ Kd.R (Kd.int .u8) 5 w' w.heap.size (fun _ => True) v0_ r ∧ Below w.heap.size w w' := by
 have hu64 := Tryz.underlying64
 have HR0_2 := Aside0.mk hr0_2
 have HC0_2 := Aside0.mk hc0_2
 clear hr0_2 hc0_2
 have HB := Aside0.mk (Below.refl w.heap.size w)
 have H : (if a0_0.size + 1 ≤ 9223372036854775807 then (if (a0_0 ++ (⟨#[32]⟩ : ByteArray)).size + a0_1.size ≤ 9223372036854775807 then (if ((a0_0 ++ (⟨#[32]⟩ : ByteArray)) ++ a0_1).size + 9 ≤ 9223372036854775807 then (if (((a0_0 ++ (⟨#[32]⟩ : ByteArray)) ++ a0_1) ++ (⟨#[32, 72, 84, 84, 80, 47, 49, 46, 49]⟩ : ByteArray)).size + 2 ≤ 9223372036854775807 then ((spec_l3HeadsText.f k l0_2).bind fun t148 => (if ((((a0_0 ++ (⟨#[32]⟩ : ByteArray)) ++ a0_1) ++ (⟨#[32, 72, 84, 84, 80, 47, 49, 46, 49]⟩ : ByteArray)) ++ (⟨#[13, 10]⟩ : ByteArray)).size + t148.size ≤ 9223372036854775807 then (if (((((a0_0 ++ (⟨#[32]⟩ : ByteArray)) ++ a0_1) ++ (⟨#[32, 72, 84, 84, 80, 47, 49, 46, 49]⟩ : ByteArray)) ++ (⟨#[13, 10]⟩ : ByteArray)) ++ t148).size + a1.size ≤ 9223372036854775807 then (if ((((((a0_0 ++ (⟨#[32]⟩ : ByteArray)) ++ a0_1) ++ (⟨#[32, 72, 84, 84, 80, 47, 49, 46, 49]⟩ : ByteArray)) ++ (⟨#[13, 10]⟩ : ByteArray)) ++ t148) ++ a1).size + 2 ≤ 9223372036854775807 then ((spec_ReqOk.f k a0_0 a0_1 l0_2 a0_3).bind fun t149 => (if t149 = true then (if ((((((((a0_0 ++ (⟨#[32]⟩ : ByteArray)) ++ a0_1) ++ (⟨#[32, 72, 84, 84, 80, 47, 49, 46, 49]⟩ : ByteArray)) ++ (⟨#[13, 10]⟩ : ByteArray)) ++ t148) ++ a1) ++ (⟨#[13, 10]⟩ : ByteArray)).size : Int) > 400 then (some (([] : List Int))) else (if (((((((a0_0 ++ (⟨#[32]⟩ : ByteArray)) ++ a0_1) ++ (⟨#[32, 72, 84, 84, 80, 47, 49, 46, 49]⟩ : ByteArray)) ++ (⟨#[13, 10]⟩ : ByteArray)) ++ t148) ++ a1) ++ (⟨#[13, 10]⟩ : ByteArray)).size + a2.size ≤ 9223372036854775807 then (if ((((((((a0_0 ++ (⟨#[32]⟩ : ByteArray)) ++ a0_1) ++ (⟨#[32, 72, 84, 84, 80, 47, 49, 46, 49]⟩ : ByteArray)) ++ (⟨#[13, 10]⟩ : ByteArray)) ++ t148) ++ a1) ++ (⟨#[13, 10]⟩ : ByteArray)) ++ a2).size < 140737488355328 then (some (bytesOf ((((((((a0_0 ++ (⟨#[32]⟩ : ByteArray)) ++ a0_1) ++ (⟨#[32, 72, 84, 84, 80, 47, 49, 46, 49]⟩ : ByteArray)) ++ (⟨#[13, 10]⟩ : ByteArray)) ++ t148) ++ a1) ++ (⟨#[13, 10]⟩ : ByteArray)) ++ a2))) else (none)) else (none))) else (some (([] : List Int))))) else (none)) else (none)) else (none))) else (none)) else (none)) else (none)) else (none)) = some r := h
 clear h
 by_cases c4 : a0_0.size + 1 ≤ 9223372036854775807
 ·rw [if_pos c4] at H
  have c4b0 := eq_true c4
  have c4b1 : decide (a0_0.size + 1 ≤ 9223372036854775807) = true := decide_eq_true c4
  try have c4b2 : (9223372036854775807 < a0_0.size + 1) = False := eq_false (Nat.not_lt.2 c4)
  by_cases c5 : (a0_0 ++ (⟨#[32]⟩ : ByteArray)).size + a0_1.size ≤ 9223372036854775807
  ·rw [if_pos c5] at H
   have c5b0 := eq_true c5
   have c5b1 : decide ((a0_0 ++ (⟨#[32]⟩ : ByteArray)).size + a0_1.size ≤ 9223372036854775807) = true := decide_eq_true c5
   try have c5b2 : (9223372036854775807 < (a0_0 ++ (⟨#[32]⟩ : ByteArray)).size + a0_1.size) = False := eq_false (Nat.not_lt.2 c5)
   have c5s : a0_0.size + 1 + a0_1.size ≤ 9223372036854775807 := q125_
   have c5s0 := eq_true c5s
   have c5s1 : decide (a0_0.size + 1 + a0_1.size ≤ 9223372036854775807) = true := decide_eq_true c5s
   have c5s2 : (9223372036854775807 < a0_0.size + 1 + a0_1.size) = False := eq_false (Nat.not_lt.2 c5s)
   by_cases c6 : ((a0_0 ++ (⟨#[32]⟩ : ByteArray)) ++ a0_1).size + 9 ≤ 9223372036854775807
   ·rw [if_pos c6] at H
    have c6b0 := eq_true c6
    have c6b1 : decide (((a0_0 ++ (⟨#[32]⟩ : ByteArray)) ++ a0_1).size + 9 ≤ 9223372036854775807) = true := decide_eq_true c6
    try have c6b2 : (9223372036854775807 < ((a0_0 ++ (⟨#[32]⟩ : ByteArray)) ++ a0_1).size + 9) = False := eq_false (Nat.not_lt.2 c6)
    have c6s : a0_0.size + 1 + a0_1.size + 9 ≤ 9223372036854775807 := q124_
    have c6s0 := eq_true c6s
    have c6s1 : decide (a0_0.size + 1 + a0_1.size + 9 ≤ 9223372036854775807) = true := decide_eq_true c6s
    have c6s2 : (9223372036854775807 < a0_0.size + 1 + a0_1.size + 9) = False := eq_false (Nat.not_lt.2 c6s)
    by_cases c7 : (((a0_0 ++ (⟨#[32]⟩ : ByteArray)) ++ a0_1) ++ (⟨#[32, 72, 84, 84, 80, 47, 49, 46, 49]⟩ : ByteArray)).size + 2 ≤ 9223372036854775807
    ·rw [if_pos c7] at H
     have c7b0 := eq_true c7
     have c7b1 : decide ((((a0_0 ++ (⟨#[32]⟩ : ByteArray)) ++ a0_1) ++ (⟨#[32, 72, 84, 84, 80, 47, 49, 46, 49]⟩ : ByteArray)).size + 2 ≤ 9223372036854775807) = true := decide_eq_true c7
     try have c7b2 : (9223372036854775807 < (((a0_0 ++ (⟨#[32]⟩ : ByteArray)) ++ a0_1) ++ (⟨#[32, 72, 84, 84, 80, 47, 49, 46, 49]⟩ : ByteArray)).size + 2) = False := eq_false (Nat.not_lt.2 c7)
     have c7s : a0_0.size + 1 + a0_1.size + 9 + 2 ≤ 9223372036854775807 := by have h_ := c7; simp only [ByteArray.size_append] at h_; exact h_
     have c7s0 := eq_true c7s
     have c7s1 : decide (a0_0.size + 1 + a0_1.size + 9 + 2 ≤ 9223372036854775807) = true := decide_eq_true c7s
     have c7s2 : (9223372036854775807 < a0_0.size + 1 + a0_1.size + 9 + 2) = False := eq_false (Nat.not_lt.2 c7s)
     replace H := Option.bind_eq_some_iff.mp H
     obtain ⟨t148, A80, H⟩ := H
     replace H : (if ((((a0_0 ++ (⟨#[32]⟩ : ByteArray)) ++ a0_1) ++ (⟨#[32, 72, 84, 84, 80, 47, 49, 46, 49]⟩ : ByteArray)) ++ (⟨#[13, 10]⟩ : ByteArray)).size + t148.size ≤ 9223372036854775807 then (if (((((a0_0 ++ (⟨#[32]⟩ : ByteArray)) ++ a0_1) ++ (⟨#[32, 72, 84, 84, 80, 47, 49, 46, 49]⟩ : ByteArray)) ++ (⟨#[13, 10]⟩ : ByteArray)) ++ t148).size + a1.size ≤ 9223372036854775807 then (if ((((((a0_0 ++ (⟨#[32]⟩ : ByteArray)) ++ a0_1) ++ (⟨#[32, 72, 84, 84, 80, 47, 49, 46, 49]⟩ : ByteArray)) ++ (⟨#[13, 10]⟩ : ByteArray)) ++ t148) ++ a1).size + 2 ≤ 9223372036854775807 then ((spec_ReqOk.f k a0_0 a0_1 l0_2 a0_3).bind fun t149 => (if t149 = true then (if ((((((((a0_0 ++ (⟨#[32]⟩ : ByteArray)) ++ a0_1) ++ (⟨#[32, 72, 84, 84, 80, 47, 49, 46, 49]⟩ : ByteArray)) ++ (⟨#[13, 10]⟩ : ByteArray)) ++ t148) ++ a1) ++ (⟨#[13, 10]⟩ : ByteArray)).size : Int) > 400 then (some (([] : List Int))) else (if (((((((a0_0 ++ (⟨#[32]⟩ : ByteArray)) ++ a0_1) ++ (⟨#[32, 72, 84, 84, 80, 47, 49, 46, 49]⟩ : ByteArray)) ++ (⟨#[13, 10]⟩ : ByteArray)) ++ t148) ++ a1) ++ (⟨#[13, 10]⟩ : ByteArray)).size + a2.size ≤ 9223372036854775807 then (if ((((((((a0_0 ++ (⟨#[32]⟩ : ByteArray)) ++ a0_1) ++ (⟨#[32, 72, 84, 84, 80, 47, 49, 46, 49]⟩ : ByteArray)) ++ (⟨#[13, 10]⟩ : ByteArray)) ++ t148) ++ a1) ++ (⟨#[13, 10]⟩ : ByteArray)) ++ a2).size < 140737488355328 then (some (bytesOf ((((((((a0_0 ++ (⟨#[32]⟩ : ByteArray)) ++ a0_1) ++ (⟨#[32, 72, 84, 84, 80, 47, 49, 46, 49]⟩ : ByteArray)) ++ (⟨#[13, 10]⟩ : ByteArray)) ++ t148) ++ a1) ++ (⟨#[13, 10]⟩ : ByteArray)) ++ a2))) else (none)) else (none))) else (some (([] : List Int))))) else (none)) else (none)) else (none)) = some r := H
     have A8 := Aside0.mk A80
     clear A80
     by_cases c9 : ((((a0_0 ++ (⟨#[32]⟩ : ByteArray)) ++ a0_1) ++ (⟨#[32, 72, 84, 84, 80, 47, 49, 46, 49]⟩ : ByteArray)) ++ (⟨#[13, 10]⟩ : ByteArray)).size + t148.size ≤ 9223372036854775807
     ·rw [if_pos c9] at H
      have c9b0 := eq_true c9
      have c9b1 : decide (((((a0_0 ++ (⟨#[32]⟩ : ByteArray)) ++ a0_1) ++ (⟨#[32, 72, 84, 84, 80, 47, 49, 46, 49]⟩ : ByteArray)) ++ (⟨#[13, 10]⟩ : ByteArray)).size + t148.size ≤ 9223372036854775807) = true := decide_eq_true c9
      try have c9b2 : (9223372036854775807 < ((((a0_0 ++ (⟨#[32]⟩ : ByteArray)) ++ a0_1) ++ (⟨#[32, 72, 84, 84, 80, 47, 49, 46, 49]⟩ : ByteArray)) ++ (⟨#[13, 10]⟩ : ByteArray)).size + t148.size) = False := eq_false (Nat.not_lt.2 c9)
      have c9s : a0_0.size + 1 + a0_1.size + 9 + 2 + t148.size ≤ 9223372036854775807 := by have h_ := c9; simp only [ByteArray.size_append] at h_; exact h_
      have c9s0 := eq_true c9s
      have c9s1 : decide (a0_0.size + 1 + a0_1.size + 9 + 2 + t148.size ≤ 9223372036854775807) = true := decide_eq_true c9s
      have c9s2 : (9223372036854775807 < a0_0.size + 1 + a0_1.size + 9 + 2 + t148.size) = False := eq_false (Nat.not_lt.2 c9s)
      by_cases c10 : (((((a0_0 ++ (⟨#[32]⟩ : ByteArray)) ++ a0_1) ++ (⟨#[32, 72, 84, 84, 80, 47, 49, 46, 49]⟩ : ByteArray)) ++ (⟨#[13, 10]⟩ : ByteArray)) ++ t148).size + a1.size ≤ 9223372036854775807
      ·rw [if_pos c10] at H
       have c10b0 := eq_true c10
       have c10b1 : decide ((((((a0_0 ++ (⟨#[32]⟩ : ByteArray)) ++ a0_1) ++ (⟨#[32, 72, 84, 84, 80, 47, 49, 46, 49]⟩ : ByteArray)) ++ (⟨#[13, 10]⟩ : ByteArray)) ++ t148).size + a1.size ≤ 9223372036854775807) = true := decide_eq_true c10
       try have c10b2 : (9223372036854775807 < (((((a0_0 ++ (⟨#[32]⟩ : ByteArray)) ++ a0_1) ++ (⟨#[32, 72, 84, 84, 80, 47, 49, 46, 49]⟩ : ByteArray)) ++ (⟨#[13, 10]⟩ : ByteArray)) ++ t148).size + a1.size) = False := eq_false (Nat.not_lt.2 c10)
       have c10s : a0_0.size + 1 + a0_1.size + 9 + 2 + t148.size + a1.size ≤ 9223372036854775807 := by have h_ := c10; simp only [ByteArray.size_append] at h_; exact h_
       have c10s0 := eq_true c10s
       have c10s1 : decide (a0_0.size + 1 + a0_1.size + 9 + 2 + t148.size + a1.size ≤ 9223372036854775807) = true := decide_eq_true c10s
       have c10s2 : (9223372036854775807 < a0_0.size + 1 + a0_1.size + 9 + 2 + t148.size + a1.size) = False := eq_false (Nat.not_lt.2 c10s)
       by_cases c11 : ((((((a0_0 ++ (⟨#[32]⟩ : ByteArray)) ++ a0_1) ++ (⟨#[32, 72, 84, 84, 80, 47, 49, 46, 49]⟩ : ByteArray)) ++ (⟨#[13, 10]⟩ : ByteArray)) ++ t148) ++ a1).size + 2 ≤ 9223372036854775807
       ·rw [if_pos c11] at H
        have c11b0 := eq_true c11
        have c11b1 : decide (((((((a0_0 ++ (⟨#[32]⟩ : ByteArray)) ++ a0_1) ++ (⟨#[32, 72, 84, 84, 80, 47, 49, 46, 49]⟩ : ByteArray)) ++ (⟨#[13, 10]⟩ : ByteArray)) ++ t148) ++ a1).size + 2 ≤ 9223372036854775807) = true := decide_eq_true c11
        try have c11b2 : (9223372036854775807 < ((((((a0_0 ++ (⟨#[32]⟩ : ByteArray)) ++ a0_1) ++ (⟨#[32, 72, 84, 84, 80, 47, 49, 46, 49]⟩ : ByteArray)) ++ (⟨#[13, 10]⟩ : ByteArray)) ++ t148) ++ a1).size + 2) = False := eq_false (Nat.not_lt.2 c11)
        have c11s : a0_0.size + 1 + a0_1.size + 9 + 2 + t148.size + a1.size + 2 ≤ 9223372036854775807 := by have h_ := c11; simp only [ByteArray.size_append] at h_; exact h_
        have c11s0 := eq_true c11s
        have c11s1 : decide (a0_0.size + 1 + a0_1.size + 9 + 2 + t148.size + a1.size + 2 ≤ 9223372036854775807) = true := decide_eq_true c11s
        have c11s2 : (9223372036854775807 < a0_0.size + 1 + a0_1.size + 9 + 2 + t148.size + a1.size + 2) = False := eq_false (Nat.not_lt.2 c11s)
        replace H := Option.bind_eq_some_iff.mp H
        obtain ⟨t149, A120, H⟩ := H
        replace H : (if t149 = true then (if ((((((((a0_0 ++ (⟨#[32]⟩ : ByteArray)) ++ a0_1) ++ (⟨#[32, 72, 84, 84, 80, 47, 49, 46, 49]⟩ : ByteArray)) ++ (⟨#[13, 10]⟩ : ByteArray)) ++ t148) ++ a1) ++ (⟨#[13, 10]⟩ : ByteArray)).size : Int) > 400 then (some (([] : List Int))) else (if (((((((a0_0 ++ (⟨#[32]⟩ : ByteArray)) ++ a0_1) ++ (⟨#[32, 72, 84, 84, 80, 47, 49, 46, 49]⟩ : ByteArray)) ++ (⟨#[13, 10]⟩ : ByteArray)) ++ t148) ++ a1) ++ (⟨#[13, 10]⟩ : ByteArray)).size + a2.size ≤ 9223372036854775807 then (if ((((((((a0_0 ++ (⟨#[32]⟩ : ByteArray)) ++ a0_1) ++ (⟨#[32, 72, 84, 84, 80, 47, 49, 46, 49]⟩ : ByteArray)) ++ (⟨#[13, 10]⟩ : ByteArray)) ++ t148) ++ a1) ++ (⟨#[13, 10]⟩ : ByteArray)) ++ a2).size < 140737488355328 then (some (bytesOf ((((((((a0_0 ++ (⟨#[32]⟩ : ByteArray)) ++ a0_1) ++ (⟨#[32, 72, 84, 84, 80, 47, 49, 46, 49]⟩ : ByteArray)) ++ (⟨#[13, 10]⟩ : ByteArray)) ++ t148) ++ a1) ++ (⟨#[13, 10]⟩ : ByteArray)) ++ a2))) else (none)) else (none))) else (some (([] : List Int)))) = some r := H
        have A12 := Aside0.mk A120
        clear A120
        by_cases c13 : t149 = true
        ·subst c13
         rw [if_pos rfl] at H
         by_cases c14 : ((((((((a0_0 ++ (⟨#[32]⟩ : ByteArray)) ++ a0_1) ++ (⟨#[32, 72, 84, 84, 80, 47, 49, 46, 49]⟩ : ByteArray)) ++ (⟨#[13, 10]⟩ : ByteArray)) ++ t148) ++ a1) ++ (⟨#[13, 10]⟩ : ByteArray)).size : Int) > 400
         ·rw [if_pos c14] at H
          have c14b0 : decide (400 < ((((((((a0_0 ++ (⟨#[32]⟩ : ByteArray)) ++ a0_1) ++ (⟨#[32, 72, 84, 84, 80, 47, 49, 46, 49]⟩ : ByteArray)) ++ (⟨#[13, 10]⟩ : ByteArray)) ++ t148) ++ a1) ++ (⟨#[13, 10]⟩ : ByteArray)).size : Int)) = true := decide_eq_true c14
          try have c14i0 : decide (400 < (a0_0.size : Int) + 1 + (a0_1.size : Int) + 9 + 2 + (t148.size : Int) + (a1.size : Int) + 2) = true := decide_eq_true (by have h_ := of_decide_eq_true c14b0; have e0_ : (((((((a0_0 ++ (⟨#[32]⟩ : ByteArray)) ++ a0_1) ++ (⟨#[32, 72, 84, 84, 80, 47, 49, 46, 49]⟩ : ByteArray)) ++ (⟨#[13, 10]⟩ : ByteArray)) ++ t148) ++ a1) ++ (⟨#[13, 10]⟩ : ByteArray)).size = a0_0.size + 1 + a0_1.size + 9 + 2 + t148.size + a1.size + 2 := (by simp only [ByteArray.size_append] <;> rfl); omega)
          have c14b1 : decide (400 < (((((((a0_0 ++ (⟨#[32]⟩ : ByteArray)) ++ a0_1) ++ (⟨#[32, 72, 84, 84, 80, 47, 49, 46, 49]⟩ : ByteArray)) ++ (⟨#[13, 10]⟩ : ByteArray)) ++ t148) ++ a1) ++ (⟨#[13, 10]⟩ : ByteArray)).size) = true := decide_eq_true (by omega)
          clear c14
          obtain ⟨y150, hy150⟩ : ∃ y_ : List Int, y_ = (([] : List Int)) := ⟨_, rfl⟩
          replace H : (some y150) = some r := by first | (rw [hy150]; with_reducible exact H) | (have H2_ := (Option.bind_some _ _).symm.trans H; rw [hy150]; with_reducible exact H2_) | (have H2_ := (Option.bind_some _ _).symm.trans H; with_reducible exact H2_) | with_reducible exact H | (rw [hy150]; exact H) | exact H
          have Ny150 := Aside0.mk hy150
          clear hy150
          obtain rfl := Option.some.inj H
          go_enter Tryz.func113, Tryz.ntmps113
          go_wp2_with (first | ((with_reducible refine gate_dst (N := 3) rfl ?_); (try (refine gate_guard (by rfl) ?_; dsimp only)); refine box_event ?hg (N := 3) ?hd (cs := #[.string a0_0, .string a0_1, .slice A0_2 l0_2.length c0_2, .string a0_3]) (t := 64) ?hr ?_; (case hd => rfl); (case hg => rfl); (case hr => exact q26_); intro gb147 hg w15 hbox hb; have n0_ := Aside0.mk (below_step q1_ hb); have n1_ := Aside0.mk (hbox); have n2_ := Aside0.mk ((q40_ : w.heap.size ≤ gb147)); have n3_ := Aside0.mk ((q40_ : w.heap.size ≤ gb147)); clear HB; have HB := n0_; have BK147 := n1_; have GW147 := n2_; have GE147 := n3_; clear n0_ n1_ n2_ n3_; clear hb hbox hg; have hcz16_0 : w15.cell? ⟨gb147, 0, none⟩ = some (.string a0_0) := (bc_ BK147.1 0).trans rfl; have hcz16_1 : w15.cell? ⟨gb147, 1, none⟩ = some (.string a0_1) := (bc_ BK147.1 1).trans rfl; have hcz16_2 : w15.cell? ⟨gb147, 2, none⟩ = some (.slice A0_2 l0_2.length c0_2) := (bc_ BK147.1 2).trans rfl; have hcz16_3 : w15.cell? ⟨gb147, 3, none⟩ = some (.string a0_3) := (bc_ BK147.1 3).trans rfl; have hfz16_0 := bF_ BK147.1 0; have hfz16_1 := bF_ BK147.1 1; have hfz16_2 := bF_ BK147.1 2; have hfz16_3 := bF_ BK147.1 3) | (go_at_call 128; (with_reducible refine (spec_l3HeadsText.calls k _ _ l0_2 t148 _ ?side1 ?side2 A8.1).mono ?_); (case side1 => exact q32_); (case side2 => exact q103_); rintro e w' ⟨rfl, ⟨nd, rfl⟩⟩; (try first | exact ⟨rfl, _, World.drewN_drewN _ _ _⟩ | exact ⟨rfl, _, Eq.trans (World.drewN_drewN _ _ _) (congrArg (World.drewN _) (Nat.add_assoc _ _ _))⟩)) | (go_at_call 146; (with_reducible refine (spec_ReqOk.calls k a0_0 a0_1 _ _ l0_2 a0_3 true _ ?side1 ?side2 A12.1).mono ?_); (case side1 => exact q44_); (case side2 => exact q103_); rintro e w17 ⟨rfl, hb⟩; have n0_ := Aside0.mk (bB_ (g := gb147) (o := .cells #[.string a0_0, .string a0_1, .slice A0_2 l0_2.length c0_2, .string a0_3] 64 (0, 0)) q34_ hb); have n1_ := Aside0.mk (below_step q9_ hb); clear BK147 HB; have BK147 := n0_; have HB := n1_; clear n0_ n1_; (try clear hb); (try clear hb2); (try clear hk); (try clear hi)) | ((with_reducible refine gate_dst (N := 31) rfl ?_); (try (refine gate_guard (by rfl) ?_; dsimp only)); refine Kd.R_lit (Kd.int .u8) _ 5 ?hg (N := 31) ?hd (xs := ([] : List Int)) (inner := []) (ok := fun _ => True) (okp := fun _ => True) ?hr ?hp (fun _ hk => hk) trivial (Below.refl _ _) (Nat.le_refl _) (by simp) ?_; (case hd => rfl); (case hg => rfl); (case hr => exact q26_); (case hp => exact q123_); intro v151 w18 ho19 hb hg_ hnew_; clear hg_ hnew_; (first | rw [← Ny150.1] at ho19 | (simp only [Int.reduceToNat] at ho19; rw [← Ny150.1] at ho19)); have n0_ := Aside0.mk (Kd.R_lower ho19 (below_size q9_)); have n1_ := Aside0.mk (bB_ (g := gb147) (o := .cells #[.string a0_0, .string a0_1, .slice A0_2 l0_2.length c0_2, .string a0_3] 64 (0, 0)) q34_ hb); have n2_ := Aside0.mk (below_step q9_ hb); clear BK147 HB; have HO152 := n0_; have BK147 := n1_; have HB := n2_; clear n0_ n1_ n2_; clear hb ho19))
          repeat (go_quiet (first | ((with_reducible refine gate_dst (N := 3) rfl ?_); (try (refine gate_guard (by rfl) ?_; dsimp only)); refine box_event ?hg (N := 3) ?hd (cs := #[.string a0_0, .string a0_1, .slice A0_2 l0_2.length c0_2, .string a0_3]) (t := 64) ?hr ?_; (case hd => rfl); (case hg => rfl); (case hr => exact q26_); intro gb147 hg w15 hbox hb; have n0_ := Aside0.mk (below_step q1_ hb); have n1_ := Aside0.mk (hbox); have n2_ := Aside0.mk ((q40_ : w.heap.size ≤ gb147)); have n3_ := Aside0.mk ((q40_ : w.heap.size ≤ gb147)); clear HB; have HB := n0_; have BK147 := n1_; have GW147 := n2_; have GE147 := n3_; clear n0_ n1_ n2_ n3_; clear hb hbox hg; have hcz16_0 : w15.cell? ⟨gb147, 0, none⟩ = some (.string a0_0) := (bc_ BK147.1 0).trans rfl; have hcz16_1 : w15.cell? ⟨gb147, 1, none⟩ = some (.string a0_1) := (bc_ BK147.1 1).trans rfl; have hcz16_2 : w15.cell? ⟨gb147, 2, none⟩ = some (.slice A0_2 l0_2.length c0_2) := (bc_ BK147.1 2).trans rfl; have hcz16_3 : w15.cell? ⟨gb147, 3, none⟩ = some (.string a0_3) := (bc_ BK147.1 3).trans rfl; have hfz16_0 := bF_ BK147.1 0; have hfz16_1 := bF_ BK147.1 1; have hfz16_2 := bF_ BK147.1 2; have hfz16_3 := bF_ BK147.1 3) | (go_at_call 128; (with_reducible refine (spec_l3HeadsText.calls k _ _ l0_2 t148 _ ?side1 ?side2 A8.1).mono ?_); (case side1 => exact q32_); (case side2 => exact q103_); rintro e w' ⟨rfl, ⟨nd, rfl⟩⟩; (try first | exact ⟨rfl, _, World.drewN_drewN _ _ _⟩ | exact ⟨rfl, _, Eq.trans (World.drewN_drewN _ _ _) (congrArg (World.drewN _) (Nat.add_assoc _ _ _))⟩)) | (go_at_call 146; (with_reducible refine (spec_ReqOk.calls k a0_0 a0_1 _ _ l0_2 a0_3 true _ ?side1 ?side2 A12.1).mono ?_); (case side1 => exact q44_); (case side2 => exact q103_); rintro e w17 ⟨rfl, hb⟩; have n0_ := Aside0.mk (bB_ (g := gb147) (o := .cells #[.string a0_0, .string a0_1, .slice A0_2 l0_2.length c0_2, .string a0_3] 64 (0, 0)) q34_ hb); have n1_ := Aside0.mk (below_step q9_ hb); clear BK147 HB; have BK147 := n0_; have HB := n1_; clear n0_ n1_; (try clear hb); (try clear hb2); (try clear hk); (try clear hi)) | ((with_reducible refine gate_dst (N := 31) rfl ?_); (try (refine gate_guard (by rfl) ?_; dsimp only)); refine Kd.R_lit (Kd.int .u8) _ 5 ?hg (N := 31) ?hd (xs := ([] : List Int)) (inner := []) (ok := fun _ => True) (okp := fun _ => True) ?hr ?hp (fun _ hk => hk) trivial (Below.refl _ _) (Nat.le_refl _) (by simp) ?_; (case hd => rfl); (case hg => rfl); (case hr => exact q26_); (case hp => exact q123_); intro v151 w18 ho19 hb hg_ hnew_; clear hg_ hnew_; (first | rw [← Ny150.1] at ho19 | (simp only [Int.reduceToNat] at ho19; rw [← Ny150.1] at ho19)); have n0_ := Aside0.mk (Kd.R_lower ho19 (below_size q9_)); have n1_ := Aside0.mk (bB_ (g := gb147) (o := .cells #[.string a0_0, .string a0_1, .slice A0_2 l0_2.length c0_2, .string a0_3] 64 (0, 0)) q34_ hb); have n2_ := Aside0.mk (below_step q9_ hb); clear BK147 HB; have HO152 := n0_; have BK147 := n1_; have HB := n2_; clear n0_ n1_ n2_; clear hb ho19)); try go_wp2_with (first | ((with_reducible refine gate_dst (N := 3) rfl ?_); (try (refine gate_guard (by rfl) ?_; dsimp only)); refine box_event ?hg (N := 3) ?hd (cs := #[.string a0_0, .string a0_1, .slice A0_2 l0_2.length c0_2, .string a0_3]) (t := 64) ?hr ?_; (case hd => rfl); (case hg => rfl); (case hr => exact q26_); intro gb147 hg w15 hbox hb; have n0_ := Aside0.mk (below_step q1_ hb); have n1_ := Aside0.mk (hbox); have n2_ := Aside0.mk ((q40_ : w.heap.size ≤ gb147)); have n3_ := Aside0.mk ((q40_ : w.heap.size ≤ gb147)); clear HB; have HB := n0_; have BK147 := n1_; have GW147 := n2_; have GE147 := n3_; clear n0_ n1_ n2_ n3_; clear hb hbox hg; have hcz16_0 : w15.cell? ⟨gb147, 0, none⟩ = some (.string a0_0) := (bc_ BK147.1 0).trans rfl; have hcz16_1 : w15.cell? ⟨gb147, 1, none⟩ = some (.string a0_1) := (bc_ BK147.1 1).trans rfl; have hcz16_2 : w15.cell? ⟨gb147, 2, none⟩ = some (.slice A0_2 l0_2.length c0_2) := (bc_ BK147.1 2).trans rfl; have hcz16_3 : w15.cell? ⟨gb147, 3, none⟩ = some (.string a0_3) := (bc_ BK147.1 3).trans rfl; have hfz16_0 := bF_ BK147.1 0; have hfz16_1 := bF_ BK147.1 1; have hfz16_2 := bF_ BK147.1 2; have hfz16_3 := bF_ BK147.1 3) | (go_at_call 128; (with_reducible refine (spec_l3HeadsText.calls k _ _ l0_2 t148 _ ?side1 ?side2 A8.1).mono ?_); (case side1 => exact q32_); (case side2 => exact q103_); rintro e w' ⟨rfl, ⟨nd, rfl⟩⟩; (try first | exact ⟨rfl, _, World.drewN_drewN _ _ _⟩ | exact ⟨rfl, _, Eq.trans (World.drewN_drewN _ _ _) (congrArg (World.drewN _) (Nat.add_assoc _ _ _))⟩)) | (go_at_call 146; (with_reducible refine (spec_ReqOk.calls k a0_0 a0_1 _ _ l0_2 a0_3 true _ ?side1 ?side2 A12.1).mono ?_); (case side1 => exact q44_); (case side2 => exact q103_); rintro e w17 ⟨rfl, hb⟩; have n0_ := Aside0.mk (bB_ (g := gb147) (o := .cells #[.string a0_0, .string a0_1, .slice A0_2 l0_2.length c0_2, .string a0_3] 64 (0, 0)) q34_ hb); have n1_ := Aside0.mk (below_step q9_ hb); clear BK147 HB; have BK147 := n0_; have HB := n1_; clear n0_ n1_; (try clear hb); (try clear hb2); (try clear hk); (try clear hi)) | ((with_reducible refine gate_dst (N := 31) rfl ?_); (try (refine gate_guard (by rfl) ?_; dsimp only)); refine Kd.R_lit (Kd.int .u8) _ 5 ?hg (N := 31) ?hd (xs := ([] : List Int)) (inner := []) (ok := fun _ => True) (okp := fun _ => True) ?hr ?hp (fun _ hk => hk) trivial (Below.refl _ _) (Nat.le_refl _) (by simp) ?_; (case hd => rfl); (case hg => rfl); (case hr => exact q26_); (case hp => exact q123_); intro v151 w18 ho19 hb hg_ hnew_; clear hg_ hnew_; (first | rw [← Ny150.1] at ho19 | (simp only [Int.reduceToNat] at ho19; rw [← Ny150.1] at ho19)); have n0_ := Aside0.mk (Kd.R_lower ho19 (below_size q9_)); have n1_ := Aside0.mk (bB_ (g := gb147) (o := .cells #[.string a0_0, .string a0_1, .slice A0_2 l0_2.length c0_2, .string a0_3] 64 (0, 0)) q34_ hb); have n2_ := Aside0.mk (below_step q9_ hb); clear BK147 HB; have HO152 := n0_; have BK147 := n1_; have HB := n2_; clear n0_ n1_ n2_; clear hb ho19)))
          go_ret
          exact ⟨_, q10_, by (with_reducible repeat (first | apply rA_ | apply rN_ | apply rD_)); exact HO152.1, q9_⟩
         ·rw [if_neg c14] at H
          have c14b0 : decide (400 < ((((((((a0_0 ++ (⟨#[32]⟩ : ByteArray)) ++ a0_1) ++ (⟨#[32, 72, 84, 84, 80, 47, 49, 46, 49]⟩ : ByteArray)) ++ (⟨#[13, 10]⟩ : ByteArray)) ++ t148) ++ a1) ++ (⟨#[13, 10]⟩ : ByteArray)).size : Int)) = false := decide_eq_false c14
          try have c14i0 : decide (400 < (a0_0.size : Int) + 1 + (a0_1.size : Int) + 9 + 2 + (t148.size : Int) + (a1.size : Int) + 2) = false := decide_eq_false (by have h_ := of_decide_eq_false c14b0; have e0_ : (((((((a0_0 ++ (⟨#[32]⟩ : ByteArray)) ++ a0_1) ++ (⟨#[32, 72, 84, 84, 80, 47, 49, 46, 49]⟩ : ByteArray)) ++ (⟨#[13, 10]⟩ : ByteArray)) ++ t148) ++ a1) ++ (⟨#[13, 10]⟩ : ByteArray)).size = a0_0.size + 1 + a0_1.size + 9 + 2 + t148.size + a1.size + 2 := (by simp only [ByteArray.size_append] <;> rfl); omega)
          have c14b1 : decide (400 < (((((((a0_0 ++ (⟨#[32]⟩ : ByteArray)) ++ a0_1) ++ (⟨#[32, 72, 84, 84, 80, 47, 49, 46, 49]⟩ : ByteArray)) ++ (⟨#[13, 10]⟩ : ByteArray)) ++ t148) ++ a1) ++ (⟨#[13, 10]⟩ : ByteArray)).size) = false := decide_eq_false (by omega)
          clear c14
          by_cases c20 : (((((((a0_0 ++ (⟨#[32]⟩ : ByteArray)) ++ a0_1) ++ (⟨#[32, 72, 84, 84, 80, 47, 49, 46, 49]⟩ : ByteArray)) ++ (⟨#[13, 10]⟩ : ByteArray)) ++ t148) ++ a1) ++ (⟨#[13, 10]⟩ : ByteArray)).size + a2.size ≤ 9223372036854775807
          ·rw [if_pos c20] at H
           have c20b0 := eq_true c20
           have c20b1 : decide ((((((((a0_0 ++ (⟨#[32]⟩ : ByteArray)) ++ a0_1) ++ (⟨#[32, 72, 84, 84, 80, 47, 49, 46, 49]⟩ : ByteArray)) ++ (⟨#[13, 10]⟩ : ByteArray)) ++ t148) ++ a1) ++ (⟨#[13, 10]⟩ : ByteArray)).size + a2.size ≤ 9223372036854775807) = true := decide_eq_true c20
           try have c20b2 : (9223372036854775807 < (((((((a0_0 ++ (⟨#[32]⟩ : ByteArray)) ++ a0_1) ++ (⟨#[32, 72, 84, 84, 80, 47, 49, 46, 49]⟩ : ByteArray)) ++ (⟨#[13, 10]⟩ : ByteArray)) ++ t148) ++ a1) ++ (⟨#[13, 10]⟩ : ByteArray)).size + a2.size) = False := eq_false (Nat.not_lt.2 c20)
           have c20s : a0_0.size + 1 + a0_1.size + 9 + 2 + t148.size + a1.size + 2 + a2.size ≤ 9223372036854775807 := by have h_ := c20; simp only [ByteArray.size_append] at h_; exact h_
           have c20s0 := eq_true c20s
           have c20s1 : decide (a0_0.size + 1 + a0_1.size + 9 + 2 + t148.size + a1.size + 2 + a2.size ≤ 9223372036854775807) = true := decide_eq_true c20s
           have c20s2 : (9223372036854775807 < a0_0.size + 1 + a0_1.size + 9 + 2 + t148.size + a1.size + 2 + a2.size) = False := eq_false (Nat.not_lt.2 c20s)
           by_cases c21 : ((((((((a0_0 ++ (⟨#[32]⟩ : ByteArray)) ++ a0_1) ++ (⟨#[32, 72, 84, 84, 80, 47, 49, 46, 49]⟩ : ByteArray)) ++ (⟨#[13, 10]⟩ : ByteArray)) ++ t148) ++ a1) ++ (⟨#[13, 10]⟩ : ByteArray)) ++ a2).size < 140737488355328
           ·rw [if_pos c21] at H
            have LMc21 := Aside0.mk c21
            clear c21
            obtain ⟨y153, hy153⟩ : ∃ y_ : List Int, y_ = (bytesOf ((((((((a0_0 ++ (⟨#[32]⟩ : ByteArray)) ++ a0_1) ++ (⟨#[32, 72, 84, 84, 80, 47, 49, 46, 49]⟩ : ByteArray)) ++ (⟨#[13, 10]⟩ : ByteArray)) ++ t148) ++ a1) ++ (⟨#[13, 10]⟩ : ByteArray)) ++ a2)) := ⟨_, rfl⟩
            replace H : (some y153) = some r := by first | (rw [hy153]; with_reducible exact H) | (have H2_ := (Option.bind_some _ _).symm.trans H; rw [hy153]; with_reducible exact H2_) | (have H2_ := (Option.bind_some _ _).symm.trans H; with_reducible exact H2_) | with_reducible exact H | (rw [hy153]; exact H) | exact H
            have Ny153 := Aside0.mk hy153
            clear hy153
            obtain rfl := Option.some.inj H
            go_enter Tryz.func113, Tryz.ntmps113
            go_wp2_with (first | ((with_reducible refine gate_dst (N := 3) rfl ?_); (try (refine gate_guard (by rfl) ?_; dsimp only)); refine box_event ?hg (N := 3) ?hd (cs := #[.string a0_0, .string a0_1, .slice A0_2 l0_2.length c0_2, .string a0_3]) (t := 64) ?hr ?_; (case hd => rfl); (case hg => rfl); (case hr => exact q26_); intro gb147 hg w22 hbox hb; have n0_ := Aside0.mk (below_step q1_ hb); have n1_ := Aside0.mk (hbox); have n2_ := Aside0.mk ((q40_ : w.heap.size ≤ gb147)); have n3_ := Aside0.mk ((q40_ : w.heap.size ≤ gb147)); clear HB; have HB := n0_; have BK147 := n1_; have GW147 := n2_; have GE147 := n3_; clear n0_ n1_ n2_ n3_; clear hb hbox hg; have hcz23_0 : w22.cell? ⟨gb147, 0, none⟩ = some (.string a0_0) := (bc_ BK147.1 0).trans rfl; have hcz23_1 : w22.cell? ⟨gb147, 1, none⟩ = some (.string a0_1) := (bc_ BK147.1 1).trans rfl; have hcz23_2 : w22.cell? ⟨gb147, 2, none⟩ = some (.slice A0_2 l0_2.length c0_2) := (bc_ BK147.1 2).trans rfl; have hcz23_3 : w22.cell? ⟨gb147, 3, none⟩ = some (.string a0_3) := (bc_ BK147.1 3).trans rfl; have hfz23_0 := bF_ BK147.1 0; have hfz23_1 := bF_ BK147.1 1; have hfz23_2 := bF_ BK147.1 2; have hfz23_3 := bF_ BK147.1 3) | (go_at_call 128; (with_reducible refine (spec_l3HeadsText.calls k _ _ l0_2 t148 _ ?side1 ?side2 A8.1).mono ?_); (case side1 => exact q32_); (case side2 => exact q103_); rintro e w' ⟨rfl, ⟨nd, rfl⟩⟩; (try first | exact ⟨rfl, _, World.drewN_drewN _ _ _⟩ | exact ⟨rfl, _, Eq.trans (World.drewN_drewN _ _ _) (congrArg (World.drewN _) (Nat.add_assoc _ _ _))⟩)) | (go_at_call 146; (with_reducible refine (spec_ReqOk.calls k a0_0 a0_1 _ _ l0_2 a0_3 true _ ?side1 ?side2 A12.1).mono ?_); (case side1 => exact q44_); (case side2 => exact q103_); rintro e w24 ⟨rfl, hb⟩; have n0_ := Aside0.mk (bB_ (g := gb147) (o := .cells #[.string a0_0, .string a0_1, .slice A0_2 l0_2.length c0_2, .string a0_3] 64 (0, 0)) q34_ hb); have n1_ := Aside0.mk (below_step q9_ hb); clear BK147 HB; have BK147 := n0_; have HB := n1_; clear n0_ n1_; (try clear hb); (try clear hb2); (try clear hk); (try clear hi)) | ((with_reducible refine gate_ (.convert 9 22 _) rfl ?_); refine Kd.R_conv_str (w0 := w) w.heap.size rfl 9 22 5 _ rfl Tryz.underlying9 Tryz.underlying22 Tryz.underlying5 ((((((((a0_0 ++ (⟨#[32]⟩ : ByteArray)) ++ a0_1) ++ (⟨#[32, 72, 84, 84, 80, 47, 49, 46, 49]⟩ : ByteArray)) ++ (⟨#[13, 10]⟩ : ByteArray)) ++ t148) ++ a1) ++ (⟨#[13, 10]⟩ : ByteArray)) ++ a2) (fun _ => True) rfl ?aF ?aO ?aB ?aS ?aL ?_; (case aB => exact q9_); (case aF => exact (fun _ _ => trivial)); (case aO => exact ((Kd.R_nil _ _ _ _ (fun _ => True)))); (case aS => exact (below_size q9_)); (case aL => have := LMc21.1; omega); intro v154 w25 ho hb hg hat; rw [← Ny153.1] at ho; have n0_ := Aside0.mk (blk_grown (g := gb147) (o := .cells #[.string a0_0, .string a0_1, .slice A0_2 l0_2.length c0_2, .string a0_3] 64 (0, 0)) q34_ hg (by simp [Value.ownBlock])); have n1_ := Aside0.mk (hb); have n2_ := Aside0.mk (ho); clear BK147 HB; have BK147 := n0_; have HB := n1_; have HO155 := n2_; clear n0_ n1_ n2_; clear ho hb hg hat))
            repeat (go_quiet (first | ((with_reducible refine gate_dst (N := 3) rfl ?_); (try (refine gate_guard (by rfl) ?_; dsimp only)); refine box_event ?hg (N := 3) ?hd (cs := #[.string a0_0, .string a0_1, .slice A0_2 l0_2.length c0_2, .string a0_3]) (t := 64) ?hr ?_; (case hd => rfl); (case hg => rfl); (case hr => exact q26_); intro gb147 hg w22 hbox hb; have n0_ := Aside0.mk (below_step q1_ hb); have n1_ := Aside0.mk (hbox); have n2_ := Aside0.mk ((q40_ : w.heap.size ≤ gb147)); have n3_ := Aside0.mk ((q40_ : w.heap.size ≤ gb147)); clear HB; have HB := n0_; have BK147 := n1_; have GW147 := n2_; have GE147 := n3_; clear n0_ n1_ n2_ n3_; clear hb hbox hg; have hcz23_0 : w22.cell? ⟨gb147, 0, none⟩ = some (.string a0_0) := (bc_ BK147.1 0).trans rfl; have hcz23_1 : w22.cell? ⟨gb147, 1, none⟩ = some (.string a0_1) := (bc_ BK147.1 1).trans rfl; have hcz23_2 : w22.cell? ⟨gb147, 2, none⟩ = some (.slice A0_2 l0_2.length c0_2) := (bc_ BK147.1 2).trans rfl; have hcz23_3 : w22.cell? ⟨gb147, 3, none⟩ = some (.string a0_3) := (bc_ BK147.1 3).trans rfl; have hfz23_0 := bF_ BK147.1 0; have hfz23_1 := bF_ BK147.1 1; have hfz23_2 := bF_ BK147.1 2; have hfz23_3 := bF_ BK147.1 3) | (go_at_call 128; (with_reducible refine (spec_l3HeadsText.calls k _ _ l0_2 t148 _ ?side1 ?side2 A8.1).mono ?_); (case side1 => exact q32_); (case side2 => exact q103_); rintro e w' ⟨rfl, ⟨nd, rfl⟩⟩; (try first | exact ⟨rfl, _, World.drewN_drewN _ _ _⟩ | exact ⟨rfl, _, Eq.trans (World.drewN_drewN _ _ _) (congrArg (World.drewN _) (Nat.add_assoc _ _ _))⟩)) | (go_at_call 146; (with_reducible refine (spec_ReqOk.calls k a0_0 a0_1 _ _ l0_2 a0_3 true _ ?side1 ?side2 A12.1).mono ?_); (case side1 => exact q44_); (case side2 => exact q103_); rintro e w24 ⟨rfl, hb⟩; have n0_ := Aside0.mk (bB_ (g := gb147) (o := .cells #[.string a0_0, .string a0_1, .slice A0_2 l0_2.length c0_2, .string a0_3] 64 (0, 0)) q34_ hb); have n1_ := Aside0.mk (below_step q9_ hb); clear BK147 HB; have BK147 := n0_; have HB := n1_; clear n0_ n1_; (try clear hb); (try clear hb2); (try clear hk); (try clear hi)) | ((with_reducible refine gate_ (.convert 9 22 _) rfl ?_); refine Kd.R_conv_str (w0 := w) w.heap.size rfl 9 22 5 _ rfl Tryz.underlying9 Tryz.underlying22 Tryz.underlying5 ((((((((a0_0 ++ (⟨#[32]⟩ : ByteArray)) ++ a0_1) ++ (⟨#[32, 72, 84, 84, 80, 47, 49, 46, 49]⟩ : ByteArray)) ++ (⟨#[13, 10]⟩ : ByteArray)) ++ t148) ++ a1) ++ (⟨#[13, 10]⟩ : ByteArray)) ++ a2) (fun _ => True) rfl ?aF ?aO ?aB ?aS ?aL ?_; (case aB => exact q9_); (case aF => exact (fun _ _ => trivial)); (case aO => exact ((Kd.R_nil _ _ _ _ (fun _ => True)))); (case aS => exact (below_size q9_)); (case aL => have := LMc21.1; omega); intro v154 w25 ho hb hg hat; rw [← Ny153.1] at ho; have n0_ := Aside0.mk (blk_grown (g := gb147) (o := .cells #[.string a0_0, .string a0_1, .slice A0_2 l0_2.length c0_2, .string a0_3] 64 (0, 0)) q34_ hg (by simp [Value.ownBlock])); have n1_ := Aside0.mk (hb); have n2_ := Aside0.mk (ho); clear BK147 HB; have BK147 := n0_; have HB := n1_; have HO155 := n2_; clear n0_ n1_ n2_; clear ho hb hg hat)); try go_wp2_with (first | ((with_reducible refine gate_dst (N := 3) rfl ?_); (try (refine gate_guard (by rfl) ?_; dsimp only)); refine box_event ?hg (N := 3) ?hd (cs := #[.string a0_0, .string a0_1, .slice A0_2 l0_2.length c0_2, .string a0_3]) (t := 64) ?hr ?_; (case hd => rfl); (case hg => rfl); (case hr => exact q26_); intro gb147 hg w22 hbox hb; have n0_ := Aside0.mk (below_step q1_ hb); have n1_ := Aside0.mk (hbox); have n2_ := Aside0.mk ((q40_ : w.heap.size ≤ gb147)); have n3_ := Aside0.mk ((q40_ : w.heap.size ≤ gb147)); clear HB; have HB := n0_; have BK147 := n1_; have GW147 := n2_; have GE147 := n3_; clear n0_ n1_ n2_ n3_; clear hb hbox hg; have hcz23_0 : w22.cell? ⟨gb147, 0, none⟩ = some (.string a0_0) := (bc_ BK147.1 0).trans rfl; have hcz23_1 : w22.cell? ⟨gb147, 1, none⟩ = some (.string a0_1) := (bc_ BK147.1 1).trans rfl; have hcz23_2 : w22.cell? ⟨gb147, 2, none⟩ = some (.slice A0_2 l0_2.length c0_2) := (bc_ BK147.1 2).trans rfl; have hcz23_3 : w22.cell? ⟨gb147, 3, none⟩ = some (.string a0_3) := (bc_ BK147.1 3).trans rfl; have hfz23_0 := bF_ BK147.1 0; have hfz23_1 := bF_ BK147.1 1; have hfz23_2 := bF_ BK147.1 2; have hfz23_3 := bF_ BK147.1 3) | (go_at_call 128; (with_reducible refine (spec_l3HeadsText.calls k _ _ l0_2 t148 _ ?side1 ?side2 A8.1).mono ?_); (case side1 => exact q32_); (case side2 => exact q103_); rintro e w' ⟨rfl, ⟨nd, rfl⟩⟩; (try first | exact ⟨rfl, _, World.drewN_drewN _ _ _⟩ | exact ⟨rfl, _, Eq.trans (World.drewN_drewN _ _ _) (congrArg (World.drewN _) (Nat.add_assoc _ _ _))⟩)) | (go_at_call 146; (with_reducible refine (spec_ReqOk.calls k a0_0 a0_1 _ _ l0_2 a0_3 true _ ?side1 ?side2 A12.1).mono ?_); (case side1 => exact q44_); (case side2 => exact q103_); rintro e w24 ⟨rfl, hb⟩; have n0_ := Aside0.mk (bB_ (g := gb147) (o := .cells #[.string a0_0, .string a0_1, .slice A0_2 l0_2.length c0_2, .string a0_3] 64 (0, 0)) q34_ hb); have n1_ := Aside0.mk (below_step q9_ hb); clear BK147 HB; have BK147 := n0_; have HB := n1_; clear n0_ n1_; (try clear hb); (try clear hb2); (try clear hk); (try clear hi)) | ((with_reducible refine gate_ (.convert 9 22 _) rfl ?_); refine Kd.R_conv_str (w0 := w) w.heap.size rfl 9 22 5 _ rfl Tryz.underlying9 Tryz.underlying22 Tryz.underlying5 ((((((((a0_0 ++ (⟨#[32]⟩ : ByteArray)) ++ a0_1) ++ (⟨#[32, 72, 84, 84, 80, 47, 49, 46, 49]⟩ : ByteArray)) ++ (⟨#[13, 10]⟩ : ByteArray)) ++ t148) ++ a1) ++ (⟨#[13, 10]⟩ : ByteArray)) ++ a2) (fun _ => True) rfl ?aF ?aO ?aB ?aS ?aL ?_; (case aB => exact q9_); (case aF => exact (fun _ _ => trivial)); (case aO => exact ((Kd.R_nil _ _ _ _ (fun _ => True)))); (case aS => exact (below_size q9_)); (case aL => have := LMc21.1; omega); intro v154 w25 ho hb hg hat; rw [← Ny153.1] at ho; have n0_ := Aside0.mk (blk_grown (g := gb147) (o := .cells #[.string a0_0, .string a0_1, .slice A0_2 l0_2.length c0_2, .string a0_3] 64 (0, 0)) q34_ hg (by simp [Value.ownBlock])); have n1_ := Aside0.mk (hb); have n2_ := Aside0.mk (ho); clear BK147 HB; have BK147 := n0_; have HB := n1_; have HO155 := n2_; clear n0_ n1_ n2_; clear ho hb hg hat)))
            go_ret
            exact ⟨_, q10_, by (with_reducible repeat (first | apply rA_ | apply rN_ | apply rD_)); exact HO155.1, q9_⟩
           ·rw [if_neg c21] at H
            exact absurd H (by simp)
          ·rw [if_neg c20] at H
           exact absurd H (by simp)
        ·replace c13 := Bool.eq_false_iff.mpr c13
         subst c13
         rw [if_neg (show ¬ (false = true) by decide)] at H
         obtain ⟨y156, hy156⟩ : ∃ y_ : List Int, y_ = (([] : List Int)) := ⟨_, rfl⟩
         replace H : (some y156) = some r := by first | (rw [hy156]; with_reducible exact H) | (have H2_ := (Option.bind_some _ _).symm.trans H; rw [hy156]; with_reducible exact H2_) | (have H2_ := (Option.bind_some _ _).symm.trans H; with_reducible exact H2_) | with_reducible exact H | (rw [hy156]; exact H) | exact H
         have Ny156 := Aside0.mk hy156
         clear hy156
         obtain rfl := Option.some.inj H
         go_enter Tryz.func113, Tryz.ntmps113
         go_wp2_with (first | ((with_reducible refine gate_dst (N := 3) rfl ?_); (try (refine gate_guard (by rfl) ?_; dsimp only)); refine box_event ?hg (N := 3) ?hd (cs := #[.string a0_0, .string a0_1, .slice A0_2 l0_2.length c0_2, .string a0_3]) (t := 64) ?hr ?_; (case hd => rfl); (case hg => rfl); (case hr => exact q26_); intro gb147 hg w26 hbox hb; have n0_ := Aside0.mk (below_step q1_ hb); have n1_ := Aside0.mk (hbox); have n2_ := Aside0.mk ((q40_ : w.heap.size ≤ gb147)); have n3_ := Aside0.mk ((q40_ : w.heap.size ≤ gb147)); clear HB; have HB := n0_; have BK147 := n1_; have GW147 := n2_; have GE147 := n3_; clear n0_ n1_ n2_ n3_; clear hb hbox hg; have hcz27_0 : w26.cell? ⟨gb147, 0, none⟩ = some (.string a0_0) := (bc_ BK147.1 0).trans rfl; have hcz27_1 : w26.cell? ⟨gb147, 1, none⟩ = some (.string a0_1) := (bc_ BK147.1 1).trans rfl; have hcz27_2 : w26.cell? ⟨gb147, 2, none⟩ = some (.slice A0_2 l0_2.length c0_2) := (bc_ BK147.1 2).trans rfl; have hcz27_3 : w26.cell? ⟨gb147, 3, none⟩ = some (.string a0_3) := (bc_ BK147.1 3).trans rfl; have hfz27_0 := bF_ BK147.1 0; have hfz27_1 := bF_ BK147.1 1; have hfz27_2 := bF_ BK147.1 2; have hfz27_3 := bF_ BK147.1 3) | (go_at_call 128; (with_reducible refine (spec_l3HeadsText.calls k _ _ l0_2 t148 _ ?side1 ?side2 A8.1).mono ?_); (case side1 => exact q32_); (case side2 => exact q103_); rintro e w' ⟨rfl, ⟨nd, rfl⟩⟩; (try first | exact ⟨rfl, _, World.drewN_drewN _ _ _⟩ | exact ⟨rfl, _, Eq.trans (World.drewN_drewN _ _ _) (congrArg (World.drewN _) (Nat.add_assoc _ _ _))⟩)) | (go_at_call 146; (with_reducible refine (spec_ReqOk.calls k a0_0 a0_1 _ _ l0_2 a0_3 false _ ?side1 ?side2 A12.1).mono ?_); (case side1 => exact q44_); (case side2 => exact q103_); rintro e w28 ⟨rfl, hb⟩; have n0_ := Aside0.mk (bB_ (g := gb147) (o := .cells #[.string a0_0, .string a0_1, .slice A0_2 l0_2.length c0_2, .string a0_3] 64 (0, 0)) q34_ hb); have n1_ := Aside0.mk (below_step q9_ hb); clear BK147 HB; have BK147 := n0_; have HB := n1_; clear n0_ n1_; (try clear hb); (try clear hb2); (try clear hk); (try clear hi)) | ((with_reducible refine gate_dst (N := 31) rfl ?_); (try (refine gate_guard (by rfl) ?_; dsimp only)); refine Kd.R_lit (Kd.int .u8) _ 5 ?hg (N := 31) ?hd (xs := ([] : List Int)) (inner := []) (ok := fun _ => True) (okp := fun _ => True) ?hr ?hp (fun _ hk => hk) trivial (Below.refl _ _) (Nat.le_refl _) (by simp) ?_; (case hd => rfl); (case hg => rfl); (case hr => exact q26_); (case hp => exact q123_); intro v157 w29 ho30 hb hg_ hnew_; clear hg_ hnew_; (first | rw [← Ny156.1] at ho30 | (simp only [Int.reduceToNat] at ho30; rw [← Ny156.1] at ho30)); have n0_ := Aside0.mk (Kd.R_lower ho30 (below_size q9_)); have n1_ := Aside0.mk (bB_ (g := gb147) (o := .cells #[.string a0_0, .string a0_1, .slice A0_2 l0_2.length c0_2, .string a0_3] 64 (0, 0)) q34_ hb); have n2_ := Aside0.mk (below_step q9_ hb); clear BK147 HB; have HO158 := n0_; have BK147 := n1_; have HB := n2_; clear n0_ n1_ n2_; clear hb ho30))
         repeat (go_quiet (first | ((with_reducible refine gate_dst (N := 3) rfl ?_); (try (refine gate_guard (by rfl) ?_; dsimp only)); refine box_event ?hg (N := 3) ?hd (cs := #[.string a0_0, .string a0_1, .slice A0_2 l0_2.length c0_2, .string a0_3]) (t := 64) ?hr ?_; (case hd => rfl); (case hg => rfl); (case hr => exact q26_); intro gb147 hg w26 hbox hb; have n0_ := Aside0.mk (below_step q1_ hb); have n1_ := Aside0.mk (hbox); have n2_ := Aside0.mk ((q40_ : w.heap.size ≤ gb147)); have n3_ := Aside0.mk ((q40_ : w.heap.size ≤ gb147)); clear HB; have HB := n0_; have BK147 := n1_; have GW147 := n2_; have GE147 := n3_; clear n0_ n1_ n2_ n3_; clear hb hbox hg; have hcz27_0 : w26.cell? ⟨gb147, 0, none⟩ = some (.string a0_0) := (bc_ BK147.1 0).trans rfl; have hcz27_1 : w26.cell? ⟨gb147, 1, none⟩ = some (.string a0_1) := (bc_ BK147.1 1).trans rfl; have hcz27_2 : w26.cell? ⟨gb147, 2, none⟩ = some (.slice A0_2 l0_2.length c0_2) := (bc_ BK147.1 2).trans rfl; have hcz27_3 : w26.cell? ⟨gb147, 3, none⟩ = some (.string a0_3) := (bc_ BK147.1 3).trans rfl; have hfz27_0 := bF_ BK147.1 0; have hfz27_1 := bF_ BK147.1 1; have hfz27_2 := bF_ BK147.1 2; have hfz27_3 := bF_ BK147.1 3) | (go_at_call 128; (with_reducible refine (spec_l3HeadsText.calls k _ _ l0_2 t148 _ ?side1 ?side2 A8.1).mono ?_); (case side1 => exact q32_); (case side2 => exact q103_); rintro e w' ⟨rfl, ⟨nd, rfl⟩⟩; (try first | exact ⟨rfl, _, World.drewN_drewN _ _ _⟩ | exact ⟨rfl, _, Eq.trans (World.drewN_drewN _ _ _) (congrArg (World.drewN _) (Nat.add_assoc _ _ _))⟩)) | (go_at_call 146; (with_reducible refine (spec_ReqOk.calls k a0_0 a0_1 _ _ l0_2 a0_3 false _ ?side1 ?side2 A12.1).mono ?_); (case side1 => exact q44_); (case side2 => exact q103_); rintro e w28 ⟨rfl, hb⟩; have n0_ := Aside0.mk (bB_ (g := gb147) (o := .cells #[.string a0_0, .string a0_1, .slice A0_2 l0_2.length c0_2, .string a0_3] 64 (0, 0)) q34_ hb); have n1_ := Aside0.mk (below_step q9_ hb); clear BK147 HB; have BK147 := n0_; have HB := n1_; clear n0_ n1_; (try clear hb); (try clear hb2); (try clear hk); (try clear hi)) | ((with_reducible refine gate_dst (N := 31) rfl ?_); (try (refine gate_guard (by rfl) ?_; dsimp only)); refine Kd.R_lit (Kd.int .u8) _ 5 ?hg (N := 31) ?hd (xs := ([] : List Int)) (inner := []) (ok := fun _ => True) (okp := fun _ => True) ?hr ?hp (fun _ hk => hk) trivial (Below.refl _ _) (Nat.le_refl _) (by simp) ?_; (case hd => rfl); (case hg => rfl); (case hr => exact q26_); (case hp => exact q123_); intro v157 w29 ho30 hb hg_ hnew_; clear hg_ hnew_; (first | rw [← Ny156.1] at ho30 | (simp only [Int.reduceToNat] at ho30; rw [← Ny156.1] at ho30)); have n0_ := Aside0.mk (Kd.R_lower ho30 (below_size q9_)); have n1_ := Aside0.mk (bB_ (g := gb147) (o := .cells #[.string a0_0, .string a0_1, .slice A0_2 l0_2.length c0_2, .string a0_3] 64 (0, 0)) q34_ hb); have n2_ := Aside0.mk (below_step q9_ hb); clear BK147 HB; have HO158 := n0_; have BK147 := n1_; have HB := n2_; clear n0_ n1_ n2_; clear hb ho30)); try go_wp2_with (first | ((with_reducible refine gate_dst (N := 3) rfl ?_); (try (refine gate_guard (by rfl) ?_; dsimp only)); refine box_event ?hg (N := 3) ?hd (cs := #[.string a0_0, .string a0_1, .slice A0_2 l0_2.length c0_2, .string a0_3]) (t := 64) ?hr ?_; (case hd => rfl); (case hg => rfl); (case hr => exact q26_); intro gb147 hg w26 hbox hb; have n0_ := Aside0.mk (below_step q1_ hb); have n1_ := Aside0.mk (hbox); have n2_ := Aside0.mk ((q40_ : w.heap.size ≤ gb147)); have n3_ := Aside0.mk ((q40_ : w.heap.size ≤ gb147)); clear HB; have HB := n0_; have BK147 := n1_; have GW147 := n2_; have GE147 := n3_; clear n0_ n1_ n2_ n3_; clear hb hbox hg; have hcz27_0 : w26.cell? ⟨gb147, 0, none⟩ = some (.string a0_0) := (bc_ BK147.1 0).trans rfl; have hcz27_1 : w26.cell? ⟨gb147, 1, none⟩ = some (.string a0_1) := (bc_ BK147.1 1).trans rfl; have hcz27_2 : w26.cell? ⟨gb147, 2, none⟩ = some (.slice A0_2 l0_2.length c0_2) := (bc_ BK147.1 2).trans rfl; have hcz27_3 : w26.cell? ⟨gb147, 3, none⟩ = some (.string a0_3) := (bc_ BK147.1 3).trans rfl; have hfz27_0 := bF_ BK147.1 0; have hfz27_1 := bF_ BK147.1 1; have hfz27_2 := bF_ BK147.1 2; have hfz27_3 := bF_ BK147.1 3) | (go_at_call 128; (with_reducible refine (spec_l3HeadsText.calls k _ _ l0_2 t148 _ ?side1 ?side2 A8.1).mono ?_); (case side1 => exact q32_); (case side2 => exact q103_); rintro e w' ⟨rfl, ⟨nd, rfl⟩⟩; (try first | exact ⟨rfl, _, World.drewN_drewN _ _ _⟩ | exact ⟨rfl, _, Eq.trans (World.drewN_drewN _ _ _) (congrArg (World.drewN _) (Nat.add_assoc _ _ _))⟩)) | (go_at_call 146; (with_reducible refine (spec_ReqOk.calls k a0_0 a0_1 _ _ l0_2 a0_3 false _ ?side1 ?side2 A12.1).mono ?_); (case side1 => exact q44_); (case side2 => exact q103_); rintro e w28 ⟨rfl, hb⟩; have n0_ := Aside0.mk (bB_ (g := gb147) (o := .cells #[.string a0_0, .string a0_1, .slice A0_2 l0_2.length c0_2, .string a0_3] 64 (0, 0)) q34_ hb); have n1_ := Aside0.mk (below_step q9_ hb); clear BK147 HB; have BK147 := n0_; have HB := n1_; clear n0_ n1_; (try clear hb); (try clear hb2); (try clear hk); (try clear hi)) | ((with_reducible refine gate_dst (N := 31) rfl ?_); (try (refine gate_guard (by rfl) ?_; dsimp only)); refine Kd.R_lit (Kd.int .u8) _ 5 ?hg (N := 31) ?hd (xs := ([] : List Int)) (inner := []) (ok := fun _ => True) (okp := fun _ => True) ?hr ?hp (fun _ hk => hk) trivial (Below.refl _ _) (Nat.le_refl _) (by simp) ?_; (case hd => rfl); (case hg => rfl); (case hr => exact q26_); (case hp => exact q123_); intro v157 w29 ho30 hb hg_ hnew_; clear hg_ hnew_; (first | rw [← Ny156.1] at ho30 | (simp only [Int.reduceToNat] at ho30; rw [← Ny156.1] at ho30)); have n0_ := Aside0.mk (Kd.R_lower ho30 (below_size q9_)); have n1_ := Aside0.mk (bB_ (g := gb147) (o := .cells #[.string a0_0, .string a0_1, .slice A0_2 l0_2.length c0_2, .string a0_3] 64 (0, 0)) q34_ hb); have n2_ := Aside0.mk (below_step q9_ hb); clear BK147 HB; have HO158 := n0_; have BK147 := n1_; have HB := n2_; clear n0_ n1_ n2_; clear hb ho30)))
         go_ret
         exact ⟨_, q10_, by (with_reducible repeat (first | apply rA_ | apply rN_ | apply rD_)); exact HO158.1, q9_⟩
       ·rw [if_neg c11] at H
        exact absurd H (by simp)
      ·rw [if_neg c10] at H
       exact absurd H (by simp)
     ·rw [if_neg c9] at H
      exact absurd H (by simp)
    ·rw [if_neg c7] at H
     exact absurd H (by simp)
   ·rw [if_neg c6] at H
    exact absurd H (by simp)
  ·rw [if_neg c5] at H
   exact absurd H (by simp)
 ·rw [if_neg c4] at H
  exact absurd H (by simp)

end Go.Proofs.YtfncjddolbghlaaGreatDoor.GFnMore
