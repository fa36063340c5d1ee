-- by gprint.py (this session's program over the kit's print.py) (a twelfth state) out of the translation. Not trusted: Lean checks it.
import Derived.Test.YtaajhdljdmbhhaaGreatDoorGFnExactFeedAllx0
import Derived.Test.YtaajhdljdmbhhaaGreatDoorGFnExactFeedAllx3
namespace Go.Proofs.YtaajhdljdmbhhaaGreatDoor.GFnExactFeedAll
open Go.RowKit Go.Proofs.YtaajhdljdmbhhaaGreatDoorW.PrintWords Go.Proofs.YtaajhdljdmbhhaaGreatDoorW.PrintLast Go.Proofs.YtaajhdljdmbhhaaGreatDoorW.PrintMore
attribute [local go_sem] max2_int min2_int max_two min_two max_three min_three max_four min_four   -- for this text's walks alone
set_option linter.unusedVariables false
set_option linter.unusedSimpArgs false
set_option maxRecDepth 100000
set_option maxHeartbeats 8000000

def laws_szByteSS.l0 : Nat → List (List Int) → Int → Int → Option (Int)
 | 0, _, _, _ => none
 | k + 1, x0, x1, x5 => if x5 < (x0.length : Int) then (if 0 ≤ x5 then ((laws_szByteS.f (rd_L5 x0 x5) x1).bind fun t144 => (if t144 < 0 then (some (-1)) else (laws_szByteSS.l0 k x0 t144 (wrap64 (x5 + 1))))) else (none)) else (some x1)
def laws_szByteSS.f (k : Nat) (l0 : List (List Int)) (a1 : Int) : Option (Int) := if (wrap64 (a1 - (l0.length : Int))) < 0 then (some (-1)) else (laws_szByteSS.l0 k l0 (wrap64 (a1 - (l0.length : Int))) 0)

theorem laws_szByteSS.calls (k : Nat) (A0 : Option Addr) (c0 : Nat) (l0 : List (List Int)) (a1 : Int) (r : Int) (w : World) (hr0 : Kd.C (Kd.slice 5 (Kd.int .u8)) w A0 l0.length l0) (hc0 : l0.length ≤ c0) (h : laws_szByteSS.f k l0 a1 = some r) :
  Calls Tryz.prog 22 #[.slice A0 l0.length c0, .int .i64 a1] w fun e w' => e = .returned (.int .i64 r) ∧ Drawn0 w w' := by
 have HR0 := aK hr0; have HC0 := aK hc0; clear hr0 hc0; have H := h; clear h; unfold laws_szByteSS.f at H
 by_cases c3 : (wrap64 (a1 - (l0.length : Int))) < 0
 ·rw [if_pos c3] at H; have c3b0 := decide_eq_true c3; clear c3; obtain rfl := Option.some.inj H; go_enter Tryz.func22, Tryz.ntmps22
  go_wp2
  go_ret
  exact ⟨q2_, q5_⟩
 ·rw [if_neg c3] at H; have c3b0 := decide_eq_false c3; clear c3; have H' := aK H; clear H; go_enter Tryz.func22, Tryz.ntmps22
  go_wp2
  go_loopg [1, 5] k (fun kq v1 v5 w' => ∃ (x1_1 : Int) (x5_1 : Int), v1 = .int .i64 x1_1 ∧ v5 = .int .i64 x5_1 ∧ Aside0 (laws_szByteSS.l0 kq l0 x1_1 x5_1 = some r) ∧ Aside0 (kq ≤ k) ∧ Drawn0 w w')
  case atStart => exact ⟨(wrap64 (a1 - (l0.length : Int))), (0), q2_, q2_, H', ⟨Nat.le_refl _⟩, q5_⟩
  case round =>
   clear H'; (try clear c2); (try clear p2); (try clear c3); (try clear c3b0); obtain ⟨x1_1, x5_1, rfl, rfl, HA, HK1, ⟨m1, rfl⟩⟩ := hrel; cases gk with
   | zero => exact absurd HA.1 (by simp [laws_szByteSS.l0])
   | succ k1 =>
    have H := HA.1; clear HA; simp only [laws_szByteSS.l0] at H; by_cases c4 : x5_1 < (l0.length : Int)
    ·rw [if_pos c4] at H; have c4b0 := decide_eq_true c4; clear c4; by_cases c5 : 0 ≤ x5_1
     ·rw [if_pos c5] at H; have c5b0 := decide_eq_true c5; clear c5; replace H := oB H; obtain ⟨t144, A6, H⟩ := H; (try dsimp only at H); have HC7 := aK H; clear H; have p143 : 0 ≤ (x5_1 : Int) := of_decide_eq_true q4_; have q143 : x5_1 < (l0.length : Int) := of_decide_eq_true q4_; obtain ⟨ad143, A143_0, c143_0, e143, hx143_0, hl143_0, hi143_0⟩ := at_L5 HR0.1 x5_1 p143 q143; cases e143
      have HR143_0 := aK hi143_0; have HC143_0 := aK hl143_0; clear hi143_0 hl143_0; replace p143 := eq_true p143; replace q143 := eq_true q143; go_upto_if 25 with (first | ((with_reducible refine gate_callee (f := 54) rfl ?_); refine goesL_ (some 23) rfl rfl Tryz.func54 (by kernel_rfl) rfl #[.slice A143_0 (rd_L5 l0 x5_1).length c143_0, .int .i64 x1_1] rfl q3_ ?_; (with_reducible refine (laws_szByteS.calls _ _ (rd_L5 l0 x5_1) x1_1 t144 _ ?side1 ?side2 A6.1).mono ?_); (case side1 => repeat (first | exact HR143_0.1 | (with_reducible refine Kd.C_alloc ?_ _) | (with_reducible refine Kd.C_drewN ?_ _) | (with_reducible refine Kd.C_drew ?_))); (case side2 => exact HC143_0.1); rintro e w' ⟨rfl, ⟨nd, rfl⟩⟩; refine ⟨_, rfl, ?_⟩))
      (try simp only [Act.put, sI, sZ, sS]); have H := HC7.1; clear HC7; by_cases c8 : t144 < 0
      ·rw [if_pos c8] at H; have c8b0 := decide_eq_true c8; clear c8; (first | rw [c8b0] | rw [c8i0] | (simp only [i64_w, i32_w]; rw [c8b0]) | skip); obtain rfl := Option.some.inj H; go_wp2
       go_ret
       exact ⟨q2_, q5_⟩
      ·rw [if_neg c8] at H; have c8b0 := decide_eq_false c8; clear c8; (first | rw [c8b0] | rw [c8i0] | (simp only [i64_w, i32_w]; rw [c8b0]) | skip); have H' := aK H; clear H; go_wp2
       go_roundg k1
       case measure => have := HK1.1; omega
       case rel => exact ⟨(t144), (wrap64 (x5_1 + 1)), q2_, q2_, H', ⟨q64_⟩, q5_⟩
     ·rw [if_neg c5] at H; exact absurd H (by simp)
    ·rw [if_neg c4] at H; have c4b0 := decide_eq_false c4; clear c4; obtain rfl := Option.some.inj H; go_wp2
     go_ret
     exact ⟨q2_, q5_⟩

mutual
def spec_HeadEnd.l0 : Nat → List Int → Int → Option (Int)
 | 0, _, _ => none
 | k + 1, x0, x3 => if (wrap64 (x3 + 3)) < (x0.length : Int) then (spec_HeadEnd.j1 k x0 x3 (decide ((wrap64 (x3 + 3)) < 400))) else (spec_HeadEnd.j1 k x0 x3 false)
def spec_HeadEnd.j1 : Nat → List Int → Int → Bool → Option (Int)
 | 0, _, _, _ => none
 | k + 1, x0, x3, x13 => if x13 = true then (if 0 ≤ x3 then (if x3 ≤ (wrap64 (x3 + 4)) then (if (wrap64 (x3 + 4)) ≤ (x0.length : Int) then (if (strOfNums ((x0.take ((wrap64 (x3 + 4)) : Int).toNat).drop (x3 : Int).toNat)).toList = ([13, 10, 13, 10] : List UInt8) then (some (wrap64 (x3 + 4))) else (spec_HeadEnd.l0 k x0 (wrap64 (x3 + 1)))) else (none)) else (none)) else (none)) else (some (-1))
end
def spec_HeadEnd.f (k : Nat) (l0 : List Int) : Option (Int) := spec_HeadEnd.l0 k l0 0

theorem spec_HeadEnd.calls (k : Nat) (A0 : Option Addr) (c0 : Nat) (l0 : List Int) (r : Int) (w : World) (hr0 : Kd.C (Kd.int .u8) w A0 l0.length l0) (hc0 : l0.length ≤ c0) (h : spec_HeadEnd.f k l0 = some r) :
  Calls Tryz.prog 42 #[.slice A0 l0.length c0] w fun e w' => e = .returned (.int .i64 r) ∧ Drawn0 w w' := by
 have HR0 := aK hr0; have HC0 := aK hc0; clear hr0 hc0; have H : (spec_HeadEnd.l0 k l0 0) = some r := h; clear h; have H' := aK H; clear H; go_enter Tryz.func42, Tryz.ntmps42
 go_wp2
 go_loopg [3] k (fun kq v3 w' => ∃ (x3_1 : Int), v3 = .int .i64 x3_1 ∧ Aside0 (spec_HeadEnd.l0 kq l0 x3_1 = some r) ∧ Aside0 (kq ≤ k) ∧ Drawn0 w w')
 case atStart => exact ⟨(0), q2_, H', ⟨Nat.le_refl _⟩, q5_⟩
 case round =>
  clear H'; obtain ⟨x3_1, rfl, HA, HK1, ⟨m1, rfl⟩⟩ := hrel; cases gk with
  | zero => exact absurd HA.1 (by simp [spec_HeadEnd.l0])
  | succ k1 =>
   have H := HA.1; clear HA; simp only [spec_HeadEnd.l0] at H; have HC2 := aK H; clear H; go_upto_region 2 with (fail)
   go_cut [13] (fun v13 wc => ∃ (kq : Nat) (x13_1 : Bool), v13 = .bool x13_1 ∧ Aside0 (spec_HeadEnd.j1 kq l0 x3_1 x13_1 = some r) ∧ Aside0 (kq ≤ k1) ∧ Drawn0 w wc)
   case first =>
    have H := HC2.1; clear HC2; by_cases c3 : (wrap64 (x3_1 + 3)) < (l0.length : Int)
    ·rw [if_pos c3] at H; have c3b0 := decide_eq_true c3; clear c3; (first | rw [c3b0] | rw [c3i0] | (simp only [i64_w, i32_w]; rw [c3b0]) | skip); have H' := aK H; clear H; go_wp2
     go_meet
     case rel => exact ⟨_, (decide ((wrap64 (x3_1 + 3)) < 400)), q2_, H', ⟨q65_⟩, q5_⟩
    ·rw [if_neg c3] at H; have c3b0 := decide_eq_false c3; clear c3; (first | rw [c3b0] | rw [c3i0] | (simp only [i64_w, i32_w]; rw [c3b0]) | skip); have H' := aK H; clear H; go_wp2
     go_meet
     case rel => exact ⟨_, (false), q2_, H', ⟨q65_⟩, q5_⟩
   case rest =>
    clear HC2; (try clear p2); (try clear c3); (try clear c3b0); obtain ⟨kq, x13_1, rfl, HA, HJ1, ⟨mc1, rfl⟩⟩ := hcut; cases kq with
    | zero => exact absurd HA.1 (by simp [spec_HeadEnd.j1])
    | succ kj1 =>
     have H := HA.1; clear HA; simp only [spec_HeadEnd.j1] at H; by_cases c4 : x13_1 = true
     ·subst c4; rw [if_pos rfl] at H; by_cases c5 : 0 ≤ x3_1
      ·rw [if_pos c5] at H; have c5b0 := eq_true c5; have c5b1 := decide_eq_true c5; clear c5; by_cases c6 : x3_1 ≤ (wrap64 (x3_1 + 4))
       ·rw [if_pos c6] at H; have c6b0 := eq_true c6; have c6b1 := decide_eq_true c6; by_cases c7 : (wrap64 (x3_1 + 4)) ≤ (l0.length : Int)
        ·rw [if_pos c7] at H; have c7b0 := eq_true c7; have c7b1 := decide_eq_true c7; by_cases c8 : (strOfNums ((l0.take ((wrap64 (x3_1 + 4)) : Int).toNat).drop (x3_1 : Int).toNat)).toList = ([13, 10, 13, 10] : List UInt8)
         ·rw [if_pos c8] at H; have c8b0 := beq_iff_eq.mpr c8; have c8b1 : ((strOfNums ((l0.take ((wrap64 (x3_1 + 4)) : Int).toNat).drop (x3_1 : Int).toNat)).toList != ([13, 10, 13, 10] : List UInt8)) = false := bne_eq_false_iff_eq.mpr c8; clear c8; obtain rfl := Option.some.inj H; obtain ⟨i09, hi09, _, hsz9, _⟩ := info_parts info5; obtain ⟨A9, hcut9, hA9, hC9⟩ := print_mid_of (P := Tryz.prog) (Value.int .u8) 0 22 5 .i64 .i64 Tryz.underlying22 hi09 hsz9 A0 c0 l0 x3_1 (wrap64 (x3_1 + 4)) (of_decide_eq_true q4_) (by first | omega | exact of_decide_eq_true q4_) (of_decide_eq_true q4_) HC0.1; have HR145 := aK (Kd.C_of_reads (h1 := fun _ => rfl) (hA9 _ (Kd.reads_of_C HR0.1))); have HC145 := aK hC9; clear hA9 hC9 hi09 hsz9; have hq_ := HR145.1; rw [show ((l0.take ((wrap64 (x3_1 + 4)) : Int).toNat).drop (x3_1 : Int).toNat).length = ((wrap64 (x3_1 + 4)).toNat - x3_1.toNat) from q180_] at hq_; have hcv10 := Kd.C_string (P := Tryz.prog) (A := A9) (c := (c0 - x3_1.toNat)) Tryz.underlying22 Tryz.underlying5 Tryz.underlying9 hq_; have hcv11 := fun nq_ : Nat => Kd.C_string (P := Tryz.prog) (A := A9) (c := (c0 - x3_1.toNat)) Tryz.underlying22 Tryz.underlying5 Tryz.underlying9 (Kd.C_drewN hq_ nq_)
          clear hq_; go_wp2
          go_ret
          exact ⟨q2_, q5_⟩
         ·rw [if_neg c8] at H; have c8b0 := beq_eq_false_iff_ne.mpr c8; have c8b1 : ((strOfNums ((l0.take ((wrap64 (x3_1 + 4)) : Int).toNat).drop (x3_1 : Int).toNat)).toList != ([13, 10, 13, 10] : List UInt8)) = true := bne_iff_ne.mpr c8; have H' := aK H; clear H; obtain ⟨i012, hi012, _, hsz12, _⟩ := info_parts info5; obtain ⟨A12, hcut12, hA12, hC12⟩ := print_mid_of (P := Tryz.prog) (Value.int .u8) 0 22 5 .i64 .i64 Tryz.underlying22 hi012 hsz12 A0 c0 l0 x3_1 (wrap64 (x3_1 + 4)) (of_decide_eq_true q4_) (by first | omega | exact of_decide_eq_true q4_) (of_decide_eq_true q4_) HC0.1; have HR145 := aK (Kd.C_of_reads (h1 := fun _ => rfl) (hA12 _ (Kd.reads_of_C HR0.1))); have HC145 := aK hC12; clear hA12 hC12 hi012 hsz12; have hq_ := HR145.1; rw [show ((l0.take ((wrap64 (x3_1 + 4)) : Int).toNat).drop (x3_1 : Int).toNat).length = ((wrap64 (x3_1 + 4)).toNat - x3_1.toNat) from q180_] at hq_; have hcv13 := Kd.C_string (P := Tryz.prog) (A := A12) (c := (c0 - x3_1.toNat)) Tryz.underlying22 Tryz.underlying5 Tryz.underlying9 hq_; have hcv14 := fun nq_ : Nat => Kd.C_string (P := Tryz.prog) (A := A12) (c := (c0 - x3_1.toNat)) Tryz.underlying22 Tryz.underlying5 Tryz.underlying9 (Kd.C_drewN hq_ nq_)
          clear hq_; go_wp2
          go_roundg kj1
          case measure => have := HK1.1; have := HJ1.1; omega
          case rel => exact ⟨(wrap64 (x3_1 + 1)), q2_, H', ⟨q174_⟩, q5_⟩
        ·rw [if_neg c7] at H; exact absurd H (by simp)
       ·rw [if_neg c6] at H; exact absurd H (by simp)
      ·rw [if_neg c5] at H; exact absurd H (by simp)
     ·replace c4 := Bool.eq_false_iff.mpr c4; subst c4; rw [if_neg (show ¬ (false = true) by decide)] at H; obtain rfl := Option.some.inj H; go_wp2
      go_ret
      exact ⟨q2_, q5_⟩

def spec_l1In.f (a0 : Int) (a1 : Int) (a2 : Int) : Option (Bool) := if a0 ≥ a1 then (some (decide (a0 ≤ a2))) else (some false)
theorem spec_l1In.calls (a0 : Int) (a1 : Int) (a2 : Int) (r : Bool) (w : World) (h : spec_l1In.f a0 a1 a2 = some r) :
  Calls Tryz.prog 84 #[.int .i64 a0, .int .i64 a1, .int .i64 a2] w fun e w' => e = .returned (.bool r) ∧ Drawn0 w w' := by
 have H : (if a0 ≥ a1 then (some (decide (a0 ≤ a2))) else (some false)) = some r := h; clear h; by_cases c4 : a0 ≥ a1
 ·rw [if_pos c4] at H; have c4b0 : decide (a1 ≤ a0) = true := decide_eq_true c4; clear c4; obtain rfl := Option.some.inj H; go_enter Tryz.func84, Tryz.ntmps84
  go_wp2
  go_ret
  exact ⟨q2_, q5_⟩
 ·rw [if_neg c4] at H; have c4b0 : decide (a1 ≤ a0) = false := decide_eq_false c4; clear c4; obtain rfl := Option.some.inj H; go_enter Tryz.func84, Tryz.ntmps84
  go_wp2
  go_ret
  exact ⟨q2_, q5_⟩

def spec_l1Digit.f (a0 : Int) : Option (Bool) := (spec_l1In.f (wrap64 (a0)) 48 57).bind fun t146 => (some t146)
theorem spec_l1Digit.calls (a0 : Int) (r : Bool) (w : World) (h : spec_l1Digit.f a0 = some r) :
  Calls Tryz.prog 154 #[.int .u8 a0] w fun e w' => e = .returned (.bool r) ∧ Drawn0 w w' := by
 have H : ((spec_l1In.f (wrap64 (a0)) 48 57).bind fun t146 => (some t146)) = some r := h; clear h; replace H := oB H; obtain ⟨t146, A2, H⟩ := H; (try dsimp only at H); obtain rfl := Option.some.inj H; go_enter Tryz.func154, Tryz.ntmps154
 go_wp2_with (first | ((with_reducible refine gate_callee (f := 84) rfl ?_); refine goesL_ (some 5) rfl rfl Tryz.func84 (by kernel_rfl) rfl #[.int .i64 (wrap64 (a0)), .int .i64 48, .int .i64 57] rfl q3_ ?_; (with_reducible refine (spec_l1In.calls (wrap64 (a0)) 48 57 t146 _ A2.1).mono ?_); rintro e w' ⟨rfl, ⟨nd, rfl⟩⟩; refine ⟨_, rfl, ?_⟩))
 go_ret
 exact ⟨q2_, q5_⟩

def spec_l1HexOf.f (a0 : Int) : Option (Int) := (spec_l1Digit.f a0).bind fun t147 => (if t147 = true then (some (wrap64 ((wrap64 (a0)) - 48))) else ((spec_l1In.f (wrap64 (a0)) 97 102).bind fun t148 => (if t148 = true then (some (wrap64 ((wrap64 ((wrap64 (a0)) - 97)) + 10))) else ((spec_l1In.f (wrap64 (a0)) 65 70).bind fun t149 => (if t149 = true then (some (wrap64 ((wrap64 ((wrap64 (a0)) - 65)) + 10))) else (some (-1)))))))
theorem spec_l1HexOf.calls (a0 : Int) (r : Int) (w : World) (h : spec_l1HexOf.f a0 = some r) :
  Calls Tryz.prog 132 #[.int .u8 a0] w fun e w' => e = .returned (.int .i64 r) ∧ Drawn0 w w' := by
 have H := h; clear h; unfold spec_l1HexOf.f at H
 replace H := oB H; obtain ⟨t147, A2, H⟩ := H; (try dsimp only at H); have HC3 := aK H; clear H; go_enter Tryz.func132, Tryz.ntmps132
 go_upto_if 3 with (first | ((with_reducible refine gate_callee (f := 154) rfl ?_); refine goesL_ (some 5) rfl rfl Tryz.func154 (by kernel_rfl) rfl #[.int .u8 a0] rfl q3_ ?_; (with_reducible refine (spec_l1Digit.calls a0 t147 _ A2.1).mono ?_); rintro e w' ⟨rfl, ⟨nd, rfl⟩⟩; refine ⟨_, rfl, ?_⟩))
 (try simp only [Act.put, sI, sZ, sS]); have H := HC3.1; clear HC3; by_cases c4 : t147 = true
 ·subst c4; rw [if_pos rfl] at H; obtain rfl := Option.some.inj H; go_wp2
  go_ret
  exact ⟨q2_, q5_⟩
 ·replace c4 := Bool.eq_false_iff.mpr c4; subst c4; rw [if_neg (show ¬ (false = true) by decide)] at H; replace H := oB H; obtain ⟨t148, A5, H⟩ := H; (try dsimp only at H); have HC6 := aK H; clear H; go_upto_if 9 with (first | ((with_reducible refine gate_callee (f := 84) rfl ?_); refine goesL_ (some 12) rfl rfl Tryz.func84 (by kernel_rfl) rfl #[.int .i64 (wrap64 (a0)), .int .i64 97, .int .i64 102] rfl q3_ ?_; (with_reducible refine (spec_l1In.calls (wrap64 (a0)) 97 102 t148 _ A5.1).mono ?_); rintro e w' ⟨rfl, ⟨nd, rfl⟩⟩; refine ⟨_, rfl, ?_⟩))
  (try simp only [Act.put, sI, sZ, sS]); have H := HC6.1; clear HC6; by_cases c7 : t148 = true
  ·subst c7; rw [if_pos rfl] at H; obtain rfl := Option.some.inj H; go_wp2
   go_ret
   exact ⟨q2_, q5_⟩
  ·replace c7 := Bool.eq_false_iff.mpr c7; subst c7; rw [if_neg (show ¬ (false = true) by decide)] at H; replace H := oB H; obtain ⟨t149, A8, H⟩ := H; (try dsimp only at H); have HC9 := aK H; clear H; go_upto_if 17 with (first | ((with_reducible refine gate_callee (f := 84) rfl ?_); refine goesL_ (some 20) rfl rfl Tryz.func84 (by kernel_rfl) rfl #[.int .i64 (wrap64 (a0)), .int .i64 65, .int .i64 70] rfl q3_ ?_; (with_reducible refine (spec_l1In.calls (wrap64 (a0)) 65 70 t149 _ A8.1).mono ?_); rintro e w' ⟨rfl, ⟨nd, rfl⟩⟩; refine ⟨_, rfl, ?_⟩))
   (try simp only [Act.put, sI, sZ, sS]); have H := HC9.1; clear HC9; by_cases c10 : t149 = true
   ·subst c10; rw [if_pos rfl] at H; obtain rfl := Option.some.inj H; go_wp2
    go_ret
    exact ⟨q2_, q5_⟩
   ·replace c10 := Bool.eq_false_iff.mpr c10; subst c10; rw [if_neg (show ¬ (false = true) by decide)] at H; obtain rfl := Option.some.inj H; go_wp2
    go_ret
    exact ⟨q2_, q5_⟩

mutual
def spec_ParseHex.l0 : Nat → ByteArray → Int → Int → Option (Int × Bool)
 | 0, _, _, _ => none
 | k + 1, x0, x4, x5 => if x5 < (x0.size : Int) then (spec_ParseHex.j1 k x0 x4 x5 (decide (x5 < 5))) else (spec_ParseHex.j1 k x0 x4 x5 false)
def spec_ParseHex.j1 : Nat → ByteArray → Int → Int → Bool → Option (Int × Bool)
 | 0, _, _, _, _ => none
 | k + 1, x0, x4, x5, x14 => if x14 = true then (if 0 ≤ x5 then (if x5 < (x0.size : Int) then ((spec_l1HexOf.f (bt x0 x5)).bind fun t150 => (if t150 < 0 then (some (0, false)) else (spec_ParseHex.l0 k x0 (wrap64 ((wrap64 (x4 * 16)) + t150)) (wrap64 (x5 + 1))))) else (none)) else (none)) else ((spec_l1In.f (x0.size : Int) 1 4).bind fun t151 => (if t151 = true then (some (x4, true)) else (some (0, false))))
end
def spec_ParseHex.f (k : Nat) (a0 : ByteArray) : Option (Int × Bool) := spec_ParseHex.l0 k a0 0 0

theorem spec_ParseHex.calls (k : Nat) (a0 : ByteArray) (r1 : Int) (r2 : Bool) (w : World) (h : spec_ParseHex.f k a0 = some (r1, r2)) :
  Calls Tryz.prog 105 #[.string a0] w fun e w' => e = .returned (.tuple #[.int .i64 r1, .bool r2]) ∧ Drawn0 w w' := by
 have H : (spec_ParseHex.l0 k a0 0 0) = some (r1, r2) := h; clear h; have H' := aK H; clear H; go_enter Tryz.func105, Tryz.ntmps105
 go_wp2
 go_loopg [4, 5] k (fun kq v4 v5 w' => ∃ (x4_1 : Int) (x5_1 : Int), v4 = .int .i64 x4_1 ∧ v5 = .int .i64 x5_1 ∧ Aside0 (spec_ParseHex.l0 kq a0 x4_1 x5_1 = some (r1, r2)) ∧ Aside0 (kq ≤ k) ∧ Drawn0 w w')
 case atStart => exact ⟨(0), (0), q2_, q2_, H', ⟨Nat.le_refl _⟩, q5_⟩
 case round =>
  clear H'; (try clear c1); obtain ⟨x4_1, x5_1, rfl, rfl, HA, HK1, ⟨m1, rfl⟩⟩ := hrel; cases gk with
  | zero => exact absurd HA.1 (by simp [spec_ParseHex.l0])
  | succ k1 =>
   have H := HA.1; clear HA; simp only [spec_ParseHex.l0] at H; have HC2 := aK H; clear H; go_upto_region 3 with (fail)
   go_cut [14] (fun v14 wc => ∃ (kq : Nat) (x14_1 : Bool), v14 = .bool x14_1 ∧ Aside0 (spec_ParseHex.j1 kq a0 x4_1 x5_1 x14_1 = some (r1, r2)) ∧ Aside0 (kq ≤ k1) ∧ Drawn0 w wc)
   case first =>
    have H := HC2.1; clear HC2; by_cases c3 : x5_1 < (a0.size : Int)
    ·rw [if_pos c3] at H; have c3b0 := decide_eq_true c3; clear c3; (first | rw [c3b0] | rw [c3i0] | (simp only [i64_w, i32_w]; rw [c3b0]) | skip); have H' := aK H; clear H; go_wp2
     go_meet
     case rel => exact ⟨_, (decide (x5_1 < 5)), q2_, H', ⟨q65_⟩, q5_⟩
    ·rw [if_neg c3] at H; have c3b0 := decide_eq_false c3; clear c3; (first | rw [c3b0] | rw [c3i0] | (simp only [i64_w, i32_w]; rw [c3b0]) | skip); have H' := aK H; clear H; go_wp2
     go_meet
     case rel => exact ⟨_, (false), q2_, H', ⟨q65_⟩, q5_⟩
   case rest =>
    clear HC2; (try clear c1); (try clear p2); (try clear c3); (try clear c3b0); obtain ⟨kq, x14_1, rfl, HA, HJ1, ⟨mc1, rfl⟩⟩ := hcut; cases kq with
    | zero => exact absurd HA.1 (by simp [spec_ParseHex.j1])
    | succ kj1 =>
     have H := HA.1; clear HA; simp only [spec_ParseHex.j1] at H; by_cases c4 : x14_1 = true
     ·subst c4; rw [if_pos rfl] at H; by_cases c5 : 0 ≤ x5_1
      ·rw [if_pos c5] at H; have c5b0 := decide_eq_true c5; clear c5; by_cases c6 : x5_1 < (a0.size : Int)
       ·rw [if_pos c6] at H; have c6b0 := decide_eq_true c6; clear c6; replace H := oB H; obtain ⟨t150, A8, H⟩ := H; (try dsimp only at H); have HC9 := aK H; clear H; have p7 : 0 ≤ (x5_1 : Int) := of_decide_eq_true q4_; have q7 : x5_1 < (a0.size : Int) := of_decide_eq_true q4_; have hx7 := bt_at a0 x5_1; replace p7 := eq_true p7; replace q7 := eq_true q7; go_upto_if 22 with (first | ((with_reducible refine gate_callee (f := 132) rfl ?_); refine goesL_ (some 20) rfl rfl Tryz.func132 (by kernel_rfl) rfl #[.int .u8 (bt a0 x5_1)] rfl q3_ ?_; (with_reducible refine (spec_l1HexOf.calls (bt a0 x5_1) t150 _ A8.1).mono ?_); rintro e w' ⟨rfl, ⟨nd, rfl⟩⟩; refine ⟨_, rfl, ?_⟩))
        (try simp only [Act.put, sI, sZ, sS]); have H := HC9.1; clear HC9; by_cases c10 : t150 < 0
        ·rw [if_pos c10] at H; have c10b0 := decide_eq_true c10; clear c10; (first | rw [c10b0] | rw [c10i0] | (simp only [i64_w, i32_w]; rw [c10b0]) | skip); simp only [Option.some.injEq, Prod.mk.injEq] at H; obtain ⟨rfl, rfl⟩ := H; go_wp2
         go_ret2
         exact ⟨q2_, q5_⟩
        ·rw [if_neg c10] at H; have c10b0 := decide_eq_false c10; clear c10; (first | rw [c10b0] | rw [c10i0] | (simp only [i64_w, i32_w]; rw [c10b0]) | skip); have H' := aK H; clear H; go_wp2
         go_roundg kj1
         case measure => have := HK1.1; have := HJ1.1; omega
         case rel => exact ⟨(wrap64 ((wrap64 (x4_1 * 16)) + t150)), (wrap64 (x5_1 + 1)), q2_, q2_, H', ⟨q174_⟩, q5_⟩
       ·rw [if_neg c6] at H; exact absurd H (by simp)
      ·rw [if_neg c5] at H; exact absurd H (by simp)
     ·replace c4 := Bool.eq_false_iff.mpr c4; subst c4; rw [if_neg (show ¬ (false = true) by decide)] at H; replace H := oB H; obtain ⟨t151, A11, H⟩ := H; (try dsimp only at H); have HC12 := aK H; clear H; go_upto_if 30 with (first | ((with_reducible refine gate_callee (f := 84) rfl ?_); refine goesL_ (some 29) rfl rfl Tryz.func84 (by kernel_rfl) rfl #[.int .i64 (a0.size : Int), .int .i64 1, .int .i64 4] rfl q3_ ?_; (with_reducible refine (spec_l1In.calls (a0.size : Int) 1 4 t151 _ A11.1).mono ?_); rintro e w' ⟨rfl, ⟨nd, rfl⟩⟩; refine ⟨_, rfl, ?_⟩))
      (try simp only [Act.put, sI, sZ, sS]); have H := HC12.1; clear HC12; by_cases c13 : t151 = true
      ·subst c13; rw [if_pos rfl] at H; simp only [Option.some.injEq, Prod.mk.injEq] at H; obtain ⟨rfl, rfl⟩ := H; go_wp2
       go_ret2
       exact ⟨q2_, q5_⟩
      ·replace c13 := Bool.eq_false_iff.mpr c13; subst c13; rw [if_neg (show ¬ (false = true) by decide)] at H; simp only [Option.some.injEq, Prod.mk.injEq] at H; obtain ⟨rfl, rfl⟩ := H; go_wp2
       go_ret2
       exact ⟨q2_, q5_⟩

end Go.Proofs.YtaajhdljdmbhhaaGreatDoor.GFnExactFeedAll
