-- by gprint.py (this session's program over the kit's print.py) (a twelfth state) out of the translation. Not trusted: Lean checks it.
import Derived.Test.YtfncjddolbghlaaGreatDoorGFnRespsx0
namespace Go.Proofs.YtfncjddolbghlaaGreatDoor.GFnResps
open Go.RowKit Go.Proofs.YtfncjddolbghlaaGreatDoorW.PrintWords Go.Proofs.YtfncjddolbghlaaGreatDoorW.PrintLast Go.Proofs.YtfncjddolbghlaaGreatDoorW.PrintMore
attribute [local go_sem] max2_int min2_int max_two min_two max_three min_three max_four min_four   -- for this text's walks alone
set_option linter.unusedVariables false
set_option linter.unusedSimpArgs false
set_option maxRecDepth 100000
set_option maxHeartbeats 8000000

def spec_l5End.l0 : Nat → List Int → Int → Option (Int)
 | 0, _, _ => none
 | k + 1, x0, x3 => if (wrap64 (x3 + 3)) < (x0.length : Int) then (if 0 ≤ x3 then (if x3 ≤ (wrap64 (x3 + 4)) then (if (wrap64 (x3 + 4)) ≤ (x0.length : Int) then (if (strOfNums ((x0.take ((wrap64 (x3 + 4)) : Int).toNat).drop (x3 : Int).toNat)).toList = ([13, 10, 13, 10] : List UInt8) then (some (wrap64 (x3 + 4))) else (spec_l5End.l0 k x0 (wrap64 (x3 + 1)))) else (none)) else (none)) else (none)) else (some (-1))
def spec_l5End.f (k : Nat) (l0 : List Int) : Option (Int) := spec_l5End.l0 k l0 0

theorem spec_l5End.calls (k : Nat) (A0 : Option Addr) (c0 : Nat) (l0 : List Int) (r : Int) (w : World) (hr0 : Kd.C (Kd.int .u8) w A0 l0.length l0) (hc0 : l0.length ≤ c0) (h : spec_l5End.f k l0 = some r) :
  Calls Tryz.prog 71 #[.slice A0 l0.length c0] w fun e w' => e = .returned (.int .i64 r) ∧ Drawn0 w w' := by
 have HR0 := aK hr0; have HC0 := aK hc0; clear hr0 hc0; have H : (spec_l5End.l0 k l0 0) = some r := h; clear h; have H' := aK H; clear H; go_enter Tryz.func71, Tryz.ntmps71
 go_wp2
 go_loopg [3] k (fun kq v3 w' => ∃ (x3_1 : Int), v3 = .int .i64 x3_1 ∧ Aside0 (spec_l5End.l0 kq l0 x3_1 = some r) ∧ Aside0 (kq ≤ k) ∧ Drawn0 w w')
 case atStart => exact ⟨(0), q4_, H', ⟨Nat.le_refl _⟩, q17_⟩
 case round =>
  clear H'; obtain ⟨x3_1, rfl, HA, HK1, ⟨m1, rfl⟩⟩ := hrel; cases gk with
  | zero => exact absurd HA.1 (by simp [spec_l5End.l0])
  | succ k1 =>
   have H := HA.1; clear HA; simp only [spec_l5End.l0] at H; by_cases c2 : (wrap64 (x3_1 + 3)) < (l0.length : Int)
   ·rw [if_pos c2] at H; have c2b0 : decide ((wrap64 (x3_1 + 3)) < (l0.length : Int)) = true := decide_eq_true c2; clear c2; by_cases c3 : 0 ≤ x3_1
    ·rw [if_pos c3] at H; have c3b0 := eq_true c3; have c3b1 : decide (0 ≤ x3_1) = true := decide_eq_true c3; clear c3; by_cases c4 : x3_1 ≤ (wrap64 (x3_1 + 4))
     ·rw [if_pos c4] at H; have c4b0 := eq_true c4; have c4b1 : decide (x3_1 ≤ (wrap64 (x3_1 + 4))) = true := decide_eq_true c4; by_cases c5 : (wrap64 (x3_1 + 4)) ≤ (l0.length : Int)
      ·rw [if_pos c5] at H; have c5b0 := eq_true c5; have c5b1 : decide ((wrap64 (x3_1 + 4)) ≤ (l0.length : Int)) = true := decide_eq_true c5; by_cases c6 : (strOfNums ((l0.take ((wrap64 (x3_1 + 4)) : Int).toNat).drop (x3_1 : Int).toNat)).toList = ([13, 10, 13, 10] : List UInt8)
       ·rw [if_pos c6] at H; have c6b0 : ((strOfNums ((l0.take ((wrap64 (x3_1 + 4)) : Int).toNat).drop (x3_1 : Int).toNat)).toList == ([13, 10, 13, 10] : List UInt8)) = true := beq_iff_eq.mpr c6; have c6b1 : ((strOfNums ((l0.take ((wrap64 (x3_1 + 4)) : Int).toNat).drop (x3_1 : Int).toNat)).toList != ([13, 10, 13, 10] : List UInt8)) = false := bne_eq_false_iff_eq.mpr c6; clear c6; obtain rfl := Option.some.inj H; obtain ⟨i07, hi07, _, hsz7, _⟩ := info_parts info5; obtain ⟨A7, hcut7, hA7, hC7⟩ := print_mid_of (P := Tryz.prog) (Value.int .u8) 0 22 5 .i64 .i64 Tryz.underlying22 hi07 hsz7 A0 c0 l0 x3_1 (wrap64 (x3_1 + 4)) (of_decide_eq_true q3_) (by first | omega | exact of_decide_eq_true q3_) (of_decide_eq_true q3_) HC0.1; have HR101 := aK (Kd.C_of_reads (h1 := fun _ => rfl) (hA7 _ (Kd.reads_of_C HR0.1))); have HC101 := aK hC7; clear hA7 hC7 hi07 hsz7; have hq_ := HR101.1; rw [show ((l0.take ((wrap64 (x3_1 + 4)) : Int).toNat).drop (x3_1 : Int).toNat).length = ((wrap64 (x3_1 + 4)).toNat - x3_1.toNat) from q233_] at hq_; have hcv8 := Kd.C_string (P := Tryz.prog) (A := A7) (c := (c0 - x3_1.toNat)) Tryz.underlying22 Tryz.underlying5 Tryz.underlying9 hq_; have hcv9 := fun nq_ : Nat => Kd.C_string (P := Tryz.prog) (A := A7) (c := (c0 - x3_1.toNat)) Tryz.underlying22 Tryz.underlying5 Tryz.underlying9 (Kd.C_drewN hq_ nq_)
        clear hq_; go_wp2
        go_ret
        exact ⟨q4_, q17_⟩
       ·rw [if_neg c6] at H; have c6b0 : ((strOfNums ((l0.take ((wrap64 (x3_1 + 4)) : Int).toNat).drop (x3_1 : Int).toNat)).toList == ([13, 10, 13, 10] : List UInt8)) = false := beq_eq_false_iff_ne.mpr c6; have c6b1 : ((strOfNums ((l0.take ((wrap64 (x3_1 + 4)) : Int).toNat).drop (x3_1 : Int).toNat)).toList != ([13, 10, 13, 10] : List UInt8)) = true := bne_iff_ne.mpr c6; have H' := aK H; clear H; obtain ⟨i010, hi010, _, hsz10, _⟩ := info_parts info5; obtain ⟨A10, hcut10, hA10, hC10⟩ := print_mid_of (P := Tryz.prog) (Value.int .u8) 0 22 5 .i64 .i64 Tryz.underlying22 hi010 hsz10 A0 c0 l0 x3_1 (wrap64 (x3_1 + 4)) (of_decide_eq_true q3_) (by first | omega | exact of_decide_eq_true q3_) (of_decide_eq_true q3_) HC0.1; have HR101 := aK (Kd.C_of_reads (h1 := fun _ => rfl) (hA10 _ (Kd.reads_of_C HR0.1))); have HC101 := aK hC10; clear hA10 hC10 hi010 hsz10; have hq_ := HR101.1; rw [show ((l0.take ((wrap64 (x3_1 + 4)) : Int).toNat).drop (x3_1 : Int).toNat).length = ((wrap64 (x3_1 + 4)).toNat - x3_1.toNat) from q233_] at hq_; have hcv11 := Kd.C_string (P := Tryz.prog) (A := A10) (c := (c0 - x3_1.toNat)) Tryz.underlying22 Tryz.underlying5 Tryz.underlying9 hq_; have hcv12 := fun nq_ : Nat => Kd.C_string (P := Tryz.prog) (A := A10) (c := (c0 - x3_1.toNat)) Tryz.underlying22 Tryz.underlying5 Tryz.underlying9 (Kd.C_drewN hq_ nq_)
        clear hq_; go_wp2
        go_roundg k1
        case measure => have := HK1.1; omega
        case rel => exact ⟨(wrap64 (x3_1 + 1)), q4_, H', ⟨q144_⟩, q17_⟩
      ·rw [if_neg c5] at H; exact absurd H (by simp)
     ·rw [if_neg c4] at H; exact absurd H (by simp)
    ·rw [if_neg c3] at H; exact absurd H (by simp)
   ·rw [if_neg c2] at H; have c2b0 : decide ((wrap64 (x3_1 + 3)) < (l0.length : Int)) = false := decide_eq_false c2; clear c2; obtain rfl := Option.some.inj H; go_wp2
    go_ret
    exact ⟨q4_, q17_⟩

def spec_l3Lines.l0 : Nat → ByteArray → List ByteArray → Int → Int → Option (List ByteArray)
 | 0, _, _, _, _ => none
 | k + 1, x0, x3, x4, x5 => if x5 ≤ (x0.size : Int) then (if x5 = (x0.size : Int) then (if 0 ≤ x4 then (if x4 ≤ (x0.size : Int) then (if x3.length < 8796093022208 then (spec_l3Lines.l0 k x0 (x3 ++ [x0.extract (x4 : Int).toNat x0.size]) x4 (wrap64 (x5 + 1))) else (none)) else (none)) else (none)) else (if (wrap64 (x5 + 1)) < (x0.size : Int) then (if 0 ≤ x5 then (if x5 < (x0.size : Int) then (if (bt x0 x5) = 13 then (if 0 ≤ (wrap64 (x5 + 1)) then (if (bt x0 (wrap64 (x5 + 1))) = 10 then (if 0 ≤ x4 then (if x4 ≤ x5 then (if x3.length < 8796093022208 then (spec_l3Lines.l0 k x0 (x3 ++ [x0.extract (x4 : Int).toNat (x5 : Int).toNat]) (wrap64 (x5 + 2)) (wrap64 ((wrap64 (x5 + 1)) + 1))) else (none)) else (none)) else (none)) else (spec_l3Lines.l0 k x0 x3 x4 (wrap64 (x5 + 1)))) else (none)) else (spec_l3Lines.l0 k x0 x3 x4 (wrap64 (x5 + 1)))) else (none)) else (none)) else (spec_l3Lines.l0 k x0 x3 x4 (wrap64 (x5 + 1))))) else (some x3)
def spec_l3Lines.f (k : Nat) (a0 : ByteArray) : Option (List ByteArray) := spec_l3Lines.l0 k a0 (([] : List ByteArray)) 0 0

theorem spec_l3Lines.calls (k : Nat) (a0 : ByteArray) (r : List ByteArray) (w : World) (h : spec_l3Lines.f k a0 = some r) :
  Calls Tryz.prog 72 #[.string a0] w fun e w' => ∃ v0_ : Value, e = .returned (v0_) ∧ Kd.R Kd.string 9 w' w.heap.size (fun _ => True) v0_ r ∧ Below w.heap.size w w' := by
 have HB := aK (Below.refl w.heap.size w); have H : (spec_l3Lines.l0 k a0 (([] : List ByteArray)) 0 0) = some r := h; clear h; obtain ⟨y102, hy102⟩ : ∃ y_ : List ByteArray, y_ = (([] : List ByteArray)) := ⟨_, rfl⟩; replace H : (spec_l3Lines.l0 k a0 y102 0 0) = some r := by first | (rw [hy102]; with_reducible exact H) | (have H2_ := (Option.bind_some _ _).symm.trans H; rw [hy102]; with_reducible exact H2_) | (have H2_ := (Option.bind_some _ _).symm.trans H; with_reducible exact H2_) | with_reducible exact H | (rw [hy102]; exact H) | exact H
 have Ny102 := aK hy102; clear hy102; have H' := aK H; clear H; go_enter Tryz.func72, Tryz.ntmps72
 go_wp2_with (first | ((with_reducible refine gate_dst (N := 6) rfl ?_); refine Kd.R_lit Kd.string _ 9 ?hg (N := 6) ?hd (xs := ([] : List ByteArray)) (inner := []) (ok := fun _ => True) (okp := fun _ => True) ?hr ?hp (fun _ hk => hk) trivial (Below.refl _ _) (Nat.le_refl _) (by simp) ?_; (case hd => rfl); (case hg => rfl); (case hr => exact q26_); (case hp => exact (Reps.none _ _)); intro v103 w2 ho3 hb hg_ hnew_; clear hg_ hnew_; (first | rw [← Ny102.1] at ho3 | (simp only [Int.reduceToNat] at ho3; rw [← Ny102.1] at ho3)); have n0_ := aK (Kd.R_lower ho3 (below_size q2_)); have n1_ := aK (below_step q2_ hb); clear HB; have HO104 := n0_; have HB := n1_; clear n0_ n1_; clear hb ho3))
 go_loopg [3, 4, 5] k (fun kq v3 v4 v5 w' => ∃ (x3_1 : List ByteArray) (x4_1 : Int) (x5_1 : Int), v4 = .int .i64 x4_1 ∧ v5 = .int .i64 x5_1 ∧ Aside0 (spec_l3Lines.l0 kq a0 x3_1 x4_1 x5_1 = some r) ∧ Aside0 (kq ≤ k) ∧ Aside0 (Kd.R Kd.string 9 w' w.heap.size (fun _ => True) v3 x3_1) ∧ Aside0 (Below w.heap.size w w'))
 case atStart => exact ⟨(y102), (0), (0), q4_, q4_, H', ⟨Nat.le_refl _⟩, ⟨by (with_reducible repeat (first | apply rA_ | apply rN_ | apply rD_)); first | exact HO104.1 | exact Kd.R_mono HO104.1 (fun k_ h_ e_ => h_ (e_.trans (ob_len _ _ _ _ _)))⟩, ⟨q2_⟩⟩
 case round =>
  clear H'; (try clear p2); obtain ⟨x3_1, x4_1, x5_1, rfl, rfl, HA, HK1, HO_3, HB⟩ := hrel; cases gk with
  | zero => exact absurd HA.1 (by simp [spec_l3Lines.l0])
  | succ k1 =>
   have H := HA.1; clear HA; simp only [spec_l3Lines.l0] at H; by_cases c4 : x5_1 ≤ (a0.size : Int)
   ·rw [if_pos c4] at H; have c4b0 : decide (x5_1 ≤ (a0.size : Int)) = true := decide_eq_true c4; clear c4; by_cases c5 : x5_1 = (a0.size : Int)
    ·rw [if_pos c5] at H; have c5b0 : (x5_1 == (a0.size : Int)) = true := beq_iff_eq.mpr c5; have c5b1 : (x5_1 != (a0.size : Int)) = false := bne_eq_false_iff_eq.mpr c5; clear c5; by_cases c6 : 0 ≤ x4_1
     ·rw [if_pos c6] at H; have c6b0 := eq_true c6; have c6b1 : decide (0 ≤ x4_1) = true := decide_eq_true c6; clear c6; by_cases c7 : x4_1 ≤ (a0.size : Int)
      ·rw [if_pos c7] at H; have c7b0 := eq_true c7; have c7b1 : decide (x4_1 ≤ (a0.size : Int)) = true := decide_eq_true c7; clear c7; by_cases c8 : x3_1.length < 8796093022208
       ·rw [if_pos c8] at H; have LMc8 := aK c8; clear c8; obtain ⟨y105, hy105⟩ : ∃ y_ : List ByteArray, y_ = (x3_1 ++ [a0.extract (x4_1 : Int).toNat a0.size]) := ⟨_, rfl⟩; replace H : (spec_l3Lines.l0 k1 a0 y105 x4_1 (wrap64 (x5_1 + 1))) = some r := by first | (rw [hy105]; with_reducible exact H) | (have H2_ := (Option.bind_some _ _).symm.trans H; rw [hy105]; with_reducible exact H2_) | (have H2_ := (Option.bind_some _ _).symm.trans H; with_reducible exact H2_) | with_reducible exact H | (rw [hy105]; exact H) | exact H
        have Ny105 := aK hy105; clear hy105; have H' := aK H; clear H; go_wp2_with (first | ((with_reducible refine gate_builtin (b := .append) (xs := #[.tmp 17, .tmp 21]) rfl ?_); at_builtin; refine Kd.R_append Kd.string (w0 := w) w.heap.size rfl (.tmp 17) (.tmp 21) 83 9 (.string ⟨#[]⟩) 16 rfl Tryz.underlying83 info9 rfl (by decide) (by omega) u3 x3_1 (a0.extract (x4_1 : Int).toNat a0.size) [.string (a0.extract (x4_1 : Int).toNat a0.size)] (fun _ => True) (fun _ => False) rfl rfl ?aP (fun _ hk => hk.elim) ?aF ?aO ?aB ?aS ?aL ?_; (case aP => exact rfl); (case aB => exact q2_); (case aF => exact q241_); (case aO => exact q77_); (case aS => exact (below_size q2_)); (case aL => have := LMc8.1; omega); intro v106 w9 ho hb hg hat; rw [← Ny105.1] at ho; have n0_ := aK (hb); have n1_ := aK (ho); clear HB HO_3; have HB := n0_; have HO107 := n1_; clear n0_ n1_; clear ho hb hg hat))
        go_roundg k1
        case measure => have := HK1.1; omega
        case rel => exact ⟨(y105), (x4_1), (wrap64 (x5_1 + 1)), q4_, q4_, H', ⟨q144_⟩, ⟨by (with_reducible repeat (first | apply rA_ | apply rN_ | apply rD_)); first | exact HO107.1 | exact Kd.R_mono HO107.1 (fun k_ h_ e_ => h_ (e_.trans (ob_len _ _ _ _ _)))⟩, ⟨q2_⟩⟩
       ·rw [if_neg c8] at H; exact absurd H (by simp)
      ·rw [if_neg c7] at H; exact absurd H (by simp)
     ·rw [if_neg c6] at H; exact absurd H (by simp)
    ·rw [if_neg c5] at H; have c5b0 : (x5_1 == (a0.size : Int)) = false := beq_eq_false_iff_ne.mpr c5; have c5b1 : (x5_1 != (a0.size : Int)) = true := bne_iff_ne.mpr c5; by_cases c10 : (wrap64 (x5_1 + 1)) < (a0.size : Int)
     ·rw [if_pos c10] at H; have c10b0 : decide ((wrap64 (x5_1 + 1)) < (a0.size : Int)) = true := decide_eq_true c10; clear c10; by_cases c11 : 0 ≤ x5_1
      ·rw [if_pos c11] at H; have c11b0 : decide (0 ≤ x5_1) = true := decide_eq_true c11; clear c11; by_cases c12 : x5_1 < (a0.size : Int)
       ·rw [if_pos c12] at H; have c12b0 : decide (x5_1 < (a0.size : Int)) = true := decide_eq_true c12; clear c12; by_cases c14 : (bt a0 x5_1) = 13
        ·rw [if_pos c14] at H; have c14b0 : ((bt a0 x5_1) == 13) = true := beq_iff_eq.mpr c14; have c14b1 : ((bt a0 x5_1) != 13) = false := bne_eq_false_iff_eq.mpr c14; clear c14; obtain ⟨ji15, hji15⟩ : ∃ j_ : Int, (wrap64 (x5_1 + 1)) = j_ := ⟨_, rfl⟩; replace H : (if 0 ≤ (ji15) then (if (bt a0 (ji15)) = 10 then (if 0 ≤ x4_1 then (if x4_1 ≤ x5_1 then (if x3_1.length < 8796093022208 then (spec_l3Lines.l0 k1 a0 (x3_1 ++ [a0.extract (x4_1 : Int).toNat (x5_1 : Int).toNat]) (wrap64 (x5_1 + 2)) (wrap64 ((ji15) + 1))) else (none)) else (none)) else (none)) else (spec_l3Lines.l0 k1 a0 x3_1 x4_1 ji15)) else (none)) = some r := by first | (rw [hji15] at H; exact H) | (simp only [hji15] at H ⊢; exact H)
         (try rw [hji15] at c10b0); have hji15w : (IntKind.i64.wrap (x5_1 + 1)) = ji15 := (i64_w _).trans hji15; by_cases c16 : 0 ≤ (ji15)
         ·rw [if_pos c16] at H; have c16b0 : decide (0 ≤ (ji15)) = true := decide_eq_true c16; clear c16; by_cases c18 : (bt a0 (ji15)) = 10
          ·rw [if_pos c18] at H; have c18b0 : ((bt a0 (ji15)) == 10) = true := beq_iff_eq.mpr c18; have c18b1 : ((bt a0 (ji15)) != 10) = false := bne_eq_false_iff_eq.mpr c18; clear c18; by_cases c19 : 0 ≤ x4_1
           ·rw [if_pos c19] at H; have c19b0 := eq_true c19; have c19b1 : decide (0 ≤ x4_1) = true := decide_eq_true c19; clear c19; by_cases c20 : x4_1 ≤ x5_1
            ·rw [if_pos c20] at H; have c20b0 := eq_true c20; have c20b1 : decide (x4_1 ≤ x5_1) = true := decide_eq_true c20; clear c20; have c21b0 := eq_true (of_decide_eq_true q3_ : x5_1 ≤ (a0.size : Int)); by_cases c22 : x3_1.length < 8796093022208
             ·rw [if_pos c22] at H; have LMc22 := aK c22; clear c22; obtain ⟨y108, hy108⟩ : ∃ y_ : List ByteArray, y_ = (x3_1 ++ [a0.extract (x4_1 : Int).toNat (x5_1 : Int).toNat]) := ⟨_, rfl⟩; replace H : (spec_l3Lines.l0 k1 a0 y108 (wrap64 (x5_1 + 2)) (wrap64 ((ji15) + 1))) = some r := by first | (rw [hy108]; with_reducible exact H) | (have H2_ := (Option.bind_some _ _).symm.trans H; rw [hy108]; with_reducible exact H2_) | (have H2_ := (Option.bind_some _ _).symm.trans H; with_reducible exact H2_) | with_reducible exact H | (rw [hy108]; exact H) | exact H
              have Ny108 := aK hy108; clear hy108; have H' := aK H; clear H; have p13 : 0 ≤ (x5_1 : Int) := of_decide_eq_true q3_; have q13 : x5_1 < (a0.size : Int) := of_decide_eq_true q3_; have hx13 := bt_at a0 x5_1; replace p13 := eq_true p13; replace q13 := eq_true q13; have p17 : 0 ≤ ((ji15) : Int) := of_decide_eq_true q3_; have q17 : (ji15) < (a0.size : Int) := of_decide_eq_true q3_; have hx17 := bt_at a0 (ji15); replace p17 := eq_true p17; replace q17 := eq_true q17; go_wp2_with (first | ((with_reducible refine gate_builtin (b := .append) (xs := #[.tmp 41, .tmp 46]) rfl ?_); at_builtin; refine Kd.R_append Kd.string (w0 := w) w.heap.size rfl (.tmp 41) (.tmp 46) 83 9 (.string ⟨#[]⟩) 16 rfl Tryz.underlying83 info9 rfl (by decide) (by omega) u3 x3_1 (a0.extract (x4_1 : Int).toNat (x5_1 : Int).toNat) [.string (a0.extract (x4_1 : Int).toNat (x5_1 : Int).toNat)] (fun _ => True) (fun _ => False) rfl rfl ?aP (fun _ hk => hk.elim) ?aF ?aO ?aB ?aS ?aL ?_; (case aP => exact rfl); (case aB => exact q2_); (case aF => exact q241_); (case aO => exact q77_); (case aS => exact (below_size q2_)); (case aL => have := LMc22.1; omega); intro v109 w23 ho hb hg hat; rw [← Ny108.1] at ho; have n0_ := aK (hb); have n1_ := aK (ho); clear HB HO_3; have HB := n0_; have HO110 := n1_; clear n0_ n1_; clear ho hb hg hat))
              go_roundg k1
              case measure => have := HK1.1; omega
              case rel => exact ⟨(y108), (wrap64 (x5_1 + 2)), (wrap64 ((ji15) + 1)), q4_, q237_, H', ⟨q144_⟩, ⟨by (with_reducible repeat (first | apply rA_ | apply rN_ | apply rD_)); first | exact HO110.1 | exact Kd.R_mono HO110.1 (fun k_ h_ e_ => h_ (e_.trans (ob_len _ _ _ _ _)))⟩, ⟨q2_⟩⟩
             ·rw [if_neg c22] at H; exact absurd H (by simp)
            ·rw [if_neg c20] at H; exact absurd H (by simp)
           ·rw [if_neg c19] at H; exact absurd H (by simp)
          ·rw [if_neg c18] at H; have c18b0 : ((bt a0 (ji15)) == 10) = false := beq_eq_false_iff_ne.mpr c18; have c18b1 : ((bt a0 (ji15)) != 10) = true := bne_iff_ne.mpr c18; have H' := aK H; clear H; have p13 : 0 ≤ (x5_1 : Int) := of_decide_eq_true q3_; have q13 : x5_1 < (a0.size : Int) := of_decide_eq_true q3_; have hx13 := bt_at a0 x5_1; replace p13 := eq_true p13; replace q13 := eq_true q13; have p17 : 0 ≤ ((ji15) : Int) := of_decide_eq_true q3_; have q17 : (ji15) < (a0.size : Int) := of_decide_eq_true q3_; have hx17 := bt_at a0 (ji15); replace p17 := eq_true p17; replace q17 := eq_true q17; go_wp2
           go_roundg k1
           case measure => have := HK1.1; omega
           case rel => exact ⟨(x3_1), (x4_1), (ji15), q4_, q237_, H', ⟨q144_⟩, ⟨q166_⟩, ⟨q2_⟩⟩
         ·rw [if_neg c16] at H; exact absurd H (by simp)
        ·rw [if_neg c14] at H; have c14b0 : ((bt a0 x5_1) == 13) = false := beq_eq_false_iff_ne.mpr c14; have c14b1 : ((bt a0 x5_1) != 13) = true := bne_iff_ne.mpr c14; have H' := aK H; clear H; have p13 : 0 ≤ (x5_1 : Int) := of_decide_eq_true q3_; have q13 : x5_1 < (a0.size : Int) := of_decide_eq_true q3_; have hx13 := bt_at a0 x5_1; replace p13 := eq_true p13; replace q13 := eq_true q13; go_wp2
         go_roundg k1
         case measure => have := HK1.1; omega
         case rel => exact ⟨(x3_1), (x4_1), (wrap64 (x5_1 + 1)), q4_, q4_, H', ⟨q144_⟩, ⟨q166_⟩, ⟨q2_⟩⟩
       ·rw [if_neg c12] at H; exact absurd H (by simp)
      ·rw [if_neg c11] at H; exact absurd H (by simp)
     ·rw [if_neg c10] at H; have c10b0 : decide ((wrap64 (x5_1 + 1)) < (a0.size : Int)) = false := decide_eq_false c10; clear c10; have H' := aK H; clear H; go_wp2
      go_roundg k1
      case measure => have := HK1.1; omega
      case rel => exact ⟨(x3_1), (x4_1), (wrap64 (x5_1 + 1)), q4_, q4_, H', ⟨q144_⟩, ⟨q166_⟩, ⟨q2_⟩⟩
   ·rw [if_neg c4] at H; have c4b0 : decide (x5_1 ≤ (a0.size : Int)) = false := decide_eq_false c4; clear c4; obtain rfl := Option.some.inj H; go_wp2
    go_ret
    exact ⟨_, q15_, q77_, q2_⟩

def spec_l1In.f (a0 : Int) (a1 : Int) (a2 : Int) : Option (Bool) := if a0 ≥ a1 then (some (decide (a0 ≤ a2))) else (some false)
theorem spec_l1In.calls (a0 : Int) (a1 : Int) (a2 : Int) (r : Bool) (w : World) (h : spec_l1In.f a0 a1 a2 = some r) :
  Calls Tryz.prog 97 #[.int .i64 a0, .int .i64 a1, .int .i64 a2] w fun e w' => e = .returned (.bool r) ∧ Drawn0 w w' := by
 have H : (if a0 ≥ a1 then (some (decide (a0 ≤ a2))) else (some false)) = some r := h; clear h; by_cases c4 : a0 ≥ a1
 ·rw [if_pos c4] at H; have c4b0 : decide (a1 ≤ a0) = true := decide_eq_true c4; clear c4; obtain rfl := Option.some.inj H; go_enter Tryz.func97, Tryz.ntmps97
  go_wp2
  go_ret
  exact ⟨q4_, q17_⟩
 ·rw [if_neg c4] at H; have c4b0 : decide (a1 ≤ a0) = false := decide_eq_false c4; clear c4; obtain rfl := Option.some.inj H; go_enter Tryz.func97, Tryz.ntmps97
  go_wp2
  go_ret
  exact ⟨q4_, q17_⟩

def spec_l1Digit.f (a0 : Int) : Option (Bool) := (spec_l1In.f (wrap64 (a0)) 48 57).bind fun t111 => (some t111)
theorem spec_l1Digit.calls (a0 : Int) (r : Bool) (w : World) (h : spec_l1Digit.f a0 = some r) :
  Calls Tryz.prog 127 #[.int .u8 a0] w fun e w' => e = .returned (.bool r) ∧ Drawn0 w w' := by
 have H : ((spec_l1In.f (wrap64 (a0)) 48 57).bind fun t111 => (some t111)) = some r := h; clear h; replace H := Option.bind_eq_some_iff.mp H; obtain ⟨t111, A20, H⟩ := H; (try dsimp only at H); have A2 := aK A20; clear A20; obtain rfl := Option.some.inj H; go_enter Tryz.func127, Tryz.ntmps127
 go_wp2_with (first | ((with_reducible refine gate_callee (f := 97) rfl ?_); refine goesL_ (some 5) rfl rfl Tryz.func97 (by kernel_rfl) rfl #[.int .i64 (wrap64 (a0)), .int .i64 48, .int .i64 57] rfl q1_ ?_; (with_reducible refine (spec_l1In.calls (wrap64 (a0)) 48 57 t111 _ A2.1).mono ?_); rintro e w' ⟨rfl, ⟨nd, rfl⟩⟩; refine ⟨_, rfl, ?_⟩))
 go_ret
 exact ⟨q4_, q17_⟩

mutual
def spec_ParseNum.l0 : Nat → ByteArray → Int → Int → Int → Option (Int × Bool)
 | 0, _, _, _, _ => none
 | k + 1, x0, x1, x6, x7 => if x7 < (x0.size : Int) then (spec_ParseNum.j1 k x0 x1 x6 x7 (decide (x7 < 8))) else (spec_ParseNum.j1 k x0 x1 x6 x7 false)
def spec_ParseNum.j1 : Nat → ByteArray → Int → Int → Int → Bool → Option (Int × Bool)
 | 0, _, _, _, _, _ => none
 | k + 1, x0, x1, x6, x7, x15 => if x15 = true then (if 0 ≤ x7 then (if x7 < (x0.size : Int) then ((spec_l1Digit.f (bt x0 x7)).bind fun t112 => (if t112 = true then (spec_ParseNum.l0 k x0 x1 (wrap64 ((wrap64 (x6 * 10)) + (((bt x0 x7) - 48) % 256))) (wrap64 (x7 + 1))) else (some (0, false)))) else (none)) else (none)) else ((spec_l1In.f (x0.size : Int) 1 7).bind fun t113 => (if t113 = true then (if (x0.size : Int) > 1 then (if 0 < (x0.size : Int) then (if (bt x0 0) = 48 then (some (0, false)) else (if x6 > x1 then (some (0, false)) else (some (x6, true)))) else (none)) else (if x6 > x1 then (some (0, false)) else (some (x6, true)))) else (some (0, false))))
end
def spec_ParseNum.f (k : Nat) (a0 : ByteArray) (a1 : Int) : Option (Int × Bool) := spec_ParseNum.l0 k a0 a1 0 0

theorem spec_ParseNum.calls (k : Nat) (a0 : ByteArray) (a1 : Int) (r1 : Int) (r2 : Bool) (w : World) (h : spec_ParseNum.f k a0 a1 = some (r1, r2)) :
  Calls Tryz.prog 73 #[.string a0, .int .i64 a1] w fun e w' => e = .returned (.tuple #[.int .i64 r1, .bool r2]) ∧ Drawn0 w w' := by
 have H : (spec_ParseNum.l0 k a0 a1 0 0) = some (r1, r2) := h; clear h; have H' := aK H; clear H; go_enter Tryz.func73, Tryz.ntmps73
 go_wp2
 go_loopg [6, 7] k (fun kq v6 v7 w' => ∃ (x6_1 : Int) (x7_1 : Int), v6 = .int .i64 x6_1 ∧ v7 = .int .i64 x7_1 ∧ Aside0 (spec_ParseNum.l0 kq a0 a1 x6_1 x7_1 = some (r1, r2)) ∧ Aside0 (kq ≤ k) ∧ Drawn0 w w')
 case atStart => exact ⟨(0), (0), q4_, q4_, H', ⟨Nat.le_refl _⟩, q17_⟩
 case round =>
  clear H'; (try clear p2); obtain ⟨x6_1, x7_1, rfl, rfl, HA, HK1, ⟨m1, rfl⟩⟩ := hrel; cases gk with
  | zero => exact absurd HA.1 (by simp [spec_ParseNum.l0])
  | succ k1 =>
   have H := HA.1; clear HA; simp only [spec_ParseNum.l0] at H; have HC3 := aK H; clear H; go_upto_region 3 with (fail)
   go_cut [15] (fun v15 wc => ∃ (kq : Nat) (x15_2 : Bool), v15 = .bool x15_2 ∧ Aside0 (spec_ParseNum.j1 kq a0 a1 x6_1 x7_1 x15_2 = some (r1, r2)) ∧ Aside0 (kq ≤ k1) ∧ Drawn0 w wc)
   case first =>
    have H := HC3.1; clear HC3; by_cases c4 : x7_1 < (a0.size : Int)
    ·rw [if_pos c4] at H; have c4b0 : decide (x7_1 < (a0.size : Int)) = true := decide_eq_true c4; clear c4; (first | rw [c4b0] | (simp only [i64_w, i32_w]; rw [c4b0]) | skip); have H' := aK H; clear H; go_wp2
     go_meet
     case rel => exact ⟨_, (decide (x7_1 < 8)), q4_, H', ⟨q227_⟩, q17_⟩
    ·rw [if_neg c4] at H; have c4b0 : decide (x7_1 < (a0.size : Int)) = false := decide_eq_false c4; clear c4; (first | rw [c4b0] | (simp only [i64_w, i32_w]; rw [c4b0]) | skip); have H' := aK H; clear H; go_wp2
     go_meet
     case rel => exact ⟨_, (false), q4_, H', ⟨q227_⟩, q17_⟩
   case rest =>
    clear HC3; (try clear p2); (try clear c4); (try clear c4b0); (try clear p2); obtain ⟨kq, x15_2, rfl, HA, HJ2, ⟨mc2, rfl⟩⟩ := hcut; cases kq with
    | zero => exact absurd HA.1 (by simp [spec_ParseNum.j1])
    | succ kj2 =>
     have H := HA.1; clear HA; simp only [spec_ParseNum.j1] at H; by_cases c5 : x15_2 = true
     ·subst c5; rw [if_pos rfl] at H; by_cases c6 : 0 ≤ x7_1
      ·rw [if_pos c6] at H; have c6b0 : decide (0 ≤ x7_1) = true := decide_eq_true c6; clear c6; by_cases c7 : x7_1 < (a0.size : Int)
       ·rw [if_pos c7] at H; have c7b0 : decide (x7_1 < (a0.size : Int)) = true := decide_eq_true c7; clear c7; replace H := Option.bind_eq_some_iff.mp H; obtain ⟨t112, A90, H⟩ := H; replace H : (if t112 = true then (spec_ParseNum.l0 kj2 a0 a1 (wrap64 ((wrap64 (x6_1 * 10)) + (((bt a0 x7_1) - 48) % 256))) (wrap64 (x7_1 + 1))) else (some (0, false))) = some (r1, r2) := H; have A9 := aK A90; clear A90; by_cases c10 : t112 = true
        ·subst c10; rw [if_pos rfl] at H; have H' := aK H; clear H; have p8 : 0 ≤ (x7_1 : Int) := of_decide_eq_true q3_; have q8 : x7_1 < (a0.size : Int) := of_decide_eq_true q3_; have hx8 := bt_at a0 x7_1; replace p8 := eq_true p8; replace q8 := eq_true q8; go_wp2_with (first | ((with_reducible refine gate_callee (f := 127) rfl ?_); refine goesL_ (some 21) rfl rfl Tryz.func127 (by kernel_rfl) rfl #[.int .u8 (bt a0 x7_1)] rfl q1_ ?_; (with_reducible refine (spec_l1Digit.calls (bt a0 x7_1) true _ A9.1).mono ?_); rintro e w' ⟨rfl, ⟨nd, rfl⟩⟩; refine ⟨_, rfl, ?_⟩; have p11 : 0 ≤ (x7_1 : Int) := of_decide_eq_true q3_; have q11 : x7_1 < (a0.size : Int) := of_decide_eq_true q3_; have hx11 := bt_at a0 x7_1; replace p11 := eq_true p11; replace q11 := eq_true q11))
         go_roundg kj2
         case measure => have := HK1.1; have := HJ2.1; omega
         case rel => exact ⟨(wrap64 ((wrap64 (x6_1 * 10)) + (((bt a0 x7_1) - 48) % 256))), (wrap64 (x7_1 + 1)), q4_, q4_, H', ⟨by have := HK1.1; have := HJ2.1; omega⟩, q17_⟩
        ·replace c10 := Bool.eq_false_iff.mpr c10; subst c10; rw [if_neg (show ¬ (false = true) by decide)] at H; simp only [Option.some.injEq, Prod.mk.injEq] at H; obtain ⟨rfl, rfl⟩ := H; have p8 : 0 ≤ (x7_1 : Int) := of_decide_eq_true q3_; have q8 : x7_1 < (a0.size : Int) := of_decide_eq_true q3_; have hx8 := bt_at a0 x7_1; replace p8 := eq_true p8; replace q8 := eq_true q8; go_wp2_with (first | ((with_reducible refine gate_callee (f := 127) rfl ?_); refine goesL_ (some 21) rfl rfl Tryz.func127 (by kernel_rfl) rfl #[.int .u8 (bt a0 x7_1)] rfl q1_ ?_; (with_reducible refine (spec_l1Digit.calls (bt a0 x7_1) false _ A9.1).mono ?_); rintro e w' ⟨rfl, ⟨nd, rfl⟩⟩; refine ⟨_, rfl, ?_⟩))
         go_ret2
         exact ⟨q4_, q17_⟩
       ·rw [if_neg c7] at H; exact absurd H (by simp)
      ·rw [if_neg c6] at H; exact absurd H (by simp)
     ·replace c5 := Bool.eq_false_iff.mpr c5; subst c5; rw [if_neg (show ¬ (false = true) by decide)] at H; replace H := Option.bind_eq_some_iff.mp H; obtain ⟨t113, A120, H⟩ := H; replace H : (if t113 = true then (if (a0.size : Int) > 1 then (if 0 < (a0.size : Int) then (if (bt a0 0) = 48 then (some (0, false)) else (if x6_1 > a1 then (some (0, false)) else (some (x6_1, true)))) else (none)) else (if x6_1 > a1 then (some (0, false)) else (some (x6_1, true)))) else (some (0, false))) = some (r1, r2) := H; have A12 := aK A120; clear A120; by_cases c13 : t113 = true
      ·subst c13; rw [if_pos rfl] at H; by_cases c14 : (a0.size : Int) > 1
       ·rw [if_pos c14] at H; have c14b0 : decide (1 < (a0.size : Int)) = true := decide_eq_true c14; have c14b1 : decide (1 < a0.size) = true := decide_eq_true (by omega); clear c14; by_cases c15 : 0 < (a0.size : Int)
        ·rw [if_pos c15] at H; have c15b0 : decide (0 < (a0.size : Int)) = true := decide_eq_true c15; have c15b1 : decide (0 < a0.size) = true := decide_eq_true (by omega); clear c15; by_cases c17 : (bt a0 0) = 48
         ·rw [if_pos c17] at H; have c17b0 : ((bt a0 0) == 48) = true := beq_iff_eq.mpr c17; have c17b1 : ((bt a0 0) != 48) = false := bne_eq_false_iff_eq.mpr c17; clear c17; simp only [Option.some.injEq, Prod.mk.injEq] at H; obtain ⟨rfl, rfl⟩ := H; go_wp2_with (first | ((with_reducible refine gate_callee (f := 97) rfl ?_); refine goesL_ (some 33) rfl rfl Tryz.func97 (by kernel_rfl) rfl #[.int .i64 (a0.size : Int), .int .i64 1, .int .i64 7] rfl q1_ ?_; (with_reducible refine (spec_l1In.calls (a0.size : Int) 1 7 true _ A12.1).mono ?_); rintro e w' ⟨rfl, ⟨nd, rfl⟩⟩; refine ⟨_, rfl, ?_⟩; have p16 : 0 ≤ (0 : Int) := (by omega); have q16 : 0 < a0.size := q230_; have hx16 : ∀ h : 0 < a0.size, ((a0[0]'h).toNat : Int) = bt a0 0 := bt_at a0 0; clear p16; have qi16 : (0 < (a0.size : Int)) = True := eq_true (of_decide_eq_true q3_); replace q16 := eq_true q16))
          go_ret2
          exact ⟨q4_, q17_⟩
         ·rw [if_neg c17] at H; have c17b0 : ((bt a0 0) == 48) = false := beq_eq_false_iff_ne.mpr c17; have c17b1 : ((bt a0 0) != 48) = true := bne_iff_ne.mpr c17; by_cases c18 : x6_1 > a1
          ·rw [if_pos c18] at H; have c18b0 : decide (a1 < x6_1) = true := decide_eq_true c18; clear c18; simp only [Option.some.injEq, Prod.mk.injEq] at H; obtain ⟨rfl, rfl⟩ := H; go_wp2_with (first | ((with_reducible refine gate_callee (f := 97) rfl ?_); refine goesL_ (some 33) rfl rfl Tryz.func97 (by kernel_rfl) rfl #[.int .i64 (a0.size : Int), .int .i64 1, .int .i64 7] rfl q1_ ?_; (with_reducible refine (spec_l1In.calls (a0.size : Int) 1 7 true _ A12.1).mono ?_); rintro e w' ⟨rfl, ⟨nd, rfl⟩⟩; refine ⟨_, rfl, ?_⟩; have p16 : 0 ≤ (0 : Int) := (by omega); have q16 : 0 < a0.size := q230_; have hx16 : ∀ h : 0 < a0.size, ((a0[0]'h).toNat : Int) = bt a0 0 := bt_at a0 0; clear p16; have qi16 : (0 < (a0.size : Int)) = True := eq_true (of_decide_eq_true q3_); replace q16 := eq_true q16))
           go_ret2
           exact ⟨q4_, q17_⟩
          ·rw [if_neg c18] at H; have c18b0 : decide (a1 < x6_1) = false := decide_eq_false c18; clear c18; simp only [Option.some.injEq, Prod.mk.injEq] at H; obtain ⟨rfl, rfl⟩ := H; go_wp2_with (first | ((with_reducible refine gate_callee (f := 97) rfl ?_); refine goesL_ (some 33) rfl rfl Tryz.func97 (by kernel_rfl) rfl #[.int .i64 (a0.size : Int), .int .i64 1, .int .i64 7] rfl q1_ ?_; (with_reducible refine (spec_l1In.calls (a0.size : Int) 1 7 true _ A12.1).mono ?_); rintro e w' ⟨rfl, ⟨nd, rfl⟩⟩; refine ⟨_, rfl, ?_⟩; have p16 : 0 ≤ (0 : Int) := (by omega); have q16 : 0 < a0.size := q230_; have hx16 : ∀ h : 0 < a0.size, ((a0[0]'h).toNat : Int) = bt a0 0 := bt_at a0 0; clear p16; have qi16 : (0 < (a0.size : Int)) = True := eq_true (of_decide_eq_true q3_); replace q16 := eq_true q16))
           go_ret2
           exact ⟨q4_, q17_⟩
        ·rw [if_neg c15] at H; exact absurd H (by simp)
       ·rw [if_neg c14] at H; have c14b0 : decide (1 < (a0.size : Int)) = false := decide_eq_false c14; have c14b1 : decide (1 < a0.size) = false := decide_eq_false (by omega); clear c14; by_cases c19 : x6_1 > a1
        ·rw [if_pos c19] at H; have c19b0 : decide (a1 < x6_1) = true := decide_eq_true c19; clear c19; simp only [Option.some.injEq, Prod.mk.injEq] at H; obtain ⟨rfl, rfl⟩ := H; go_wp2_with (first | ((with_reducible refine gate_callee (f := 97) rfl ?_); refine goesL_ (some 33) rfl rfl Tryz.func97 (by kernel_rfl) rfl #[.int .i64 (a0.size : Int), .int .i64 1, .int .i64 7] rfl q1_ ?_; (with_reducible refine (spec_l1In.calls (a0.size : Int) 1 7 true _ A12.1).mono ?_); rintro e w' ⟨rfl, ⟨nd, rfl⟩⟩; refine ⟨_, rfl, ?_⟩))
         go_ret2
         exact ⟨q4_, q17_⟩
        ·rw [if_neg c19] at H; have c19b0 : decide (a1 < x6_1) = false := decide_eq_false c19; clear c19; simp only [Option.some.injEq, Prod.mk.injEq] at H; obtain ⟨rfl, rfl⟩ := H; go_wp2_with (first | ((with_reducible refine gate_callee (f := 97) rfl ?_); refine goesL_ (some 33) rfl rfl Tryz.func97 (by kernel_rfl) rfl #[.int .i64 (a0.size : Int), .int .i64 1, .int .i64 7] rfl q1_ ?_; (with_reducible refine (spec_l1In.calls (a0.size : Int) 1 7 true _ A12.1).mono ?_); rintro e w' ⟨rfl, ⟨nd, rfl⟩⟩; refine ⟨_, rfl, ?_⟩))
         go_ret2
         exact ⟨q4_, q17_⟩
      ·replace c13 := Bool.eq_false_iff.mpr c13; subst c13; rw [if_neg (show ¬ (false = true) by decide)] at H; simp only [Option.some.injEq, Prod.mk.injEq] at H; obtain ⟨rfl, rfl⟩ := H; go_wp2_with (first | ((with_reducible refine gate_callee (f := 97) rfl ?_); refine goesL_ (some 33) rfl rfl Tryz.func97 (by kernel_rfl) rfl #[.int .i64 (a0.size : Int), .int .i64 1, .int .i64 7] rfl q1_ ?_; (with_reducible refine (spec_l1In.calls (a0.size : Int) 1 7 false _ A12.1).mono ?_); rintro e w' ⟨rfl, ⟨nd, rfl⟩⟩; refine ⟨_, rfl, ?_⟩))
       go_ret2
       exact ⟨q4_, q17_⟩

end Go.Proofs.YtfncjddolbghlaaGreatDoor.GFnResps
