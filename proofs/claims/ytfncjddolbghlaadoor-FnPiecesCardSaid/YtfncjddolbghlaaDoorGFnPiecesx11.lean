-- by gprint.py (this session's program over the kit's print.py) (a twelfth state) out of the translation. Not trusted: Lean checks it.
import Derived.Test.YtfncjddolbghlaaDoorGFnPiecesx0
import Derived.Test.YtfncjddolbghlaaDoorGFnPiecesx2
import Derived.Test.YtfncjddolbghlaaDoorGFnPiecesx3
import Derived.Test.YtfncjddolbghlaaDoorGFnPiecesx6
import Derived.Test.YtfncjddolbghlaaDoorGFnPiecesx7
import Derived.Test.YtfncjddolbghlaaDoorGFnPiecesx10
namespace Go.Proofs.YtfncjddolbghlaaDoor.GFnPieces
open Go.RowKit Go.Proofs.YtfncjddolbghlaaDoorW.PrintWords Go.Proofs.YtfncjddolbghlaaDoorW.PrintLast Go.Proofs.YtfncjddolbghlaaDoorW.PrintMore
attribute [local go_sem] max2_int min2_int max_two min_two max_three min_three max_four min_four   -- for this text's walks alone
set_option linter.unusedVariables false
set_option linter.unusedSimpArgs false
set_option maxRecDepth 100000
set_option maxHeartbeats 8000000

def laws_FnPieces.l0 : Nat → List Int → List (S28) → ByteArray → Int → Option (Bool)
 | 0, _, _, _, _ => none
 | k + 1, x0, x3, x4, x5 => if x5 < (x3.length : Int) then (if 0 ≤ x5 then ((impl_PieceText.f k ((rd_T28 x3 x5).f0) ((rd_T28 x3 x5).f1) ((rd_T28 x3 x5).f2) ((rd_T28 x3 x5).f3) ((rd_T28 x3 x5).f4)).bind fun t382 => (if x4.size + t382.size ≤ 9223372036854775807 then (laws_FnPieces.l0 k x0 x3 (x4 ++ t382) (wrap64 (x5 + 1))) else (none))) else (none)) else ((impl_Pieces.f k x4).bind fun bt383 => ((spec_DrawPieces.f k x0).bind fun t387 => ((impl_Pieces.f k t387).bind fun bt388 => ((spec_Pieces.f k t387).bind fun bt392 => ((spec_DrawPieceText.f k x0).bind fun bt396 => (if bt383.2 = true then ((laws_samePieces.f k bt383.1 x3).bind fun t402 => (if t402 = true then (if (bt388.2 == bt392.2) = true then ((laws_samePieces.f k bt388.1 bt392.1).bind fun t403 => (if t403 = true then ((impl_PieceText.f k bt396.1 bt396.2.1 bt396.2.2.1 bt396.2.2.2.1 bt396.2.2.2.2).bind fun t404 => ((spec_PieceText.f k bt396.1 bt396.2.1 bt396.2.2.1 bt396.2.2.2.1 bt396.2.2.2.2).bind fun t405 => (some (t404.toList == t405.toList)))) else (some false))) else (some false)) else (some false))) else (some false)))))))
def laws_FnPieces.f (k : Nat) (l0 : List Int) : Option (Bool) := (laws_big.f l0).bind fun t377 => (if t377 = true then (some true) else ((spec_DrawPieceList.f k l0).bind fun t378 => (laws_FnPieces.l0 k l0 t378 (⟨#[]⟩ : ByteArray) 0)))

def laws_FnPieces.T14 : Bool × List (List Nat × List Nat) := (true, [([], []), ([0], [0]), ([1], [1]), ([1], [1]), ([2, 3, 1, 1], [1, 2, 3]), ([1, 4], [1, 4]), ([5, 4], [5]), ([6], [6]), ([6], [6]), ([7, 8, 6], [6, 7, 8]), ([6, 9], [6, 9]), ([10, 6], [10]), ([11], [11]), ([11], [11]), ([12, 13, 11, 11], [11, 12, 13]), ([11, 14], [11, 14]), ([15, 14], [15]), ([16], [16]), ([17, 16, 16], [16, 17]), ([16], [16]), ([19, 18, 16], [16, 19]), ([18, 20, 16], [16, 18, 20]), ([16, 21], [16, 21]), ([22, 20, 0, 1, 2, 3, 4, 5, 6, 7, 8, 9, 10, 11, 12, 13, 14, 15, 16, 17, 18, 19, 20, 21, 22], [22])])
def laws_FnPieces.B14 : List Nat := [0, 1, 3, 3, 15, 31, 63, 127, 127, 511, 1023, 2047, 4095, 4095, 16383, 32767, 65535, 131071, 262143, 131071, 1048575, 2097151, 4194303, 8388607]
theorem laws_FnPieces.tab14 : rtab .any (opsOf Tryd.f3 14) = laws_FnPieces.T14 := by kernel_rfl
theorem laws_FnPieces.bits14 : waitsOk laws_FnPieces.T14.2 laws_FnPieces.B14 = true := by kernel_rfl
theorem laws_FnPieces.calls (k : Nat) (A0 : Option Addr) (c0 : Nat) (l0 : List Int) (w : World) (hr0 : Kd.C (Kd.int .u8) w A0 l0.length l0) (hc0 : l0.length ≤ c0) (h : laws_FnPieces.f k l0 = some true) (hG : GOK w) :
  Calls Tryd.prog 3 #[.slice A0 l0.length c0] w fun e w' => e = .returned (.bool true) ∧ Below w.heap.size w w' := by
 have hu28 := Tryd.underlying28
 have HR0 := Aside0.mk hr0
 have HC0 := Aside0.mk hc0
 clear hr0 hc0
 have HB := Aside0.mk (Below.refl w.heap.size w)
 have H : ((laws_big.f l0).bind fun t377 => (if t377 = true then (some true) else ((spec_DrawPieceList.f k l0).bind fun t378 => (laws_FnPieces.l0 k l0 t378 (⟨#[]⟩ : ByteArray) 0)))) = some true := h
 clear h
 replace H := Option.bind_eq_some_iff.mp H
 obtain ⟨t377, A20, H⟩ := H
 replace H : (if t377 = true then (some true) else ((spec_DrawPieceList.f k l0).bind fun t378 => (laws_FnPieces.l0 k l0 t378 (⟨#[]⟩ : ByteArray) 0))) = some true := H
 have A2 := Aside0.mk A20
 clear A20
 by_cases c3 : t377 = true
 ·subst c3
  have H1 : (some true) = some true := rfl
  clear H
  have H := H1
  clear H1
  skip
  go_enter Tryd.func3, Tryd.ntmps3
  go_wp2_with (first | ((with_reducible refine gate_callee (f := 4) rfl ?_); refine goesL_ (some 15) rfl rfl Tryd.func4 (by kernel_rfl) rfl #[.slice A0 l0.length c0] rfl (by (try simp only [List.map_toArray, List.map_cons, List.map_nil]); first | done | rfl | (simp only [List.length_drop, List.length_take]; rfl)) ?_; (with_reducible refine (laws_big.calls _ _ l0 true _ ?side1 ?side2 A2.1).mono ?_); (case side1 => repeat (first | exact HR0.1 | (with_reducible refine Kd.C_alloc ?_ _) | (with_reducible refine Kd.C_drewN ?_ _) | (with_reducible refine Kd.C_drew ?_))); (case side2 => exact HC0.1); rintro e w' ⟨rfl, ⟨nd, rfl⟩⟩; refine ⟨_, rfl, ?_⟩))
  go_ret
  exact ⟨by first | rfl | (simp [errW_none, errW_some] <;> rfl) | (simp [*, errW_none, errW_some] <;> rfl), by repeat (first | (with_reducible first | exact HB.1 | apply aB_ | apply pN_ | apply dB_) | exact HB.1)⟩
 ·replace c3 := Bool.eq_false_iff.mpr c3
  subst c3
  have H1 : ((spec_DrawPieceList.f k l0).bind fun t378 => (laws_FnPieces.l0 k l0 t378 (⟨#[]⟩ : ByteArray) 0)) = some true := by rw [if_neg (show ¬ (false = true) by decide)] at H; exact H
  clear H
  have H := H1
  clear H1
  replace H := Option.bind_eq_some_iff.mp H
  obtain ⟨t378, A40, H⟩ := H
  replace H : (laws_FnPieces.l0 k l0 t378 (⟨#[]⟩ : ByteArray) 0) = some true := H
  have A4 := Aside0.mk A40
  clear A40
  have H' := Aside0.mk H
  clear H
  go_enter Tryd.func3, Tryd.ntmps3
  go_wp2_with (first | ((with_reducible refine gate_callee (f := 4) rfl ?_); refine goesL_ (some 15) rfl rfl Tryd.func4 (by kernel_rfl) rfl #[.slice A0 l0.length c0] rfl (by (try simp only [List.map_toArray, List.map_cons, List.map_nil]); first | done | rfl | (simp only [List.length_drop, List.length_take]; rfl)) ?_; (with_reducible refine (laws_big.calls _ _ l0 false _ ?side1 ?side2 A2.1).mono ?_); (case side1 => repeat (first | exact HR0.1 | (with_reducible refine Kd.C_alloc ?_ _) | (with_reducible refine Kd.C_drewN ?_ _) | (with_reducible refine Kd.C_drew ?_))); (case side2 => exact HC0.1); rintro e w' ⟨rfl, ⟨nd, rfl⟩⟩; refine ⟨_, rfl, ?_⟩) | ((with_reducible refine gate_callee (f := 5) rfl ?_); refine goesL_ (some 17) rfl rfl Tryd.func5 (by kernel_rfl) rfl #[.slice A0 l0.length c0] rfl (by (try simp only [List.map_toArray, List.map_cons, List.map_nil]); first | done | rfl | (simp only [List.length_drop, List.length_take]; rfl)) ?_; (with_reducible refine (spec_DrawPieceList.calls k _ _ l0 t378 _ ?side1 ?side2 A4.1).mono ?_); (case side1 => repeat (first | exact HR0.1 | (with_reducible refine Kd.C_alloc ?_ _) | (with_reducible refine Kd.C_drewN ?_ _) | (with_reducible refine Kd.C_drew ?_))); (case side2 => exact HC0.1); rintro e w5 ⟨v379, rfl, ho0, hb⟩; refine ⟨_, rfl, ?_⟩; have n0_ := Aside0.mk (Kd.R_lower ho0 (below_size (by repeat (first | (with_reducible first | exact HB.1 | apply aB_ | apply pN_ | apply dB_) | exact HB.1)))); have n1_ := Aside0.mk (below_step (by repeat (first | (with_reducible first | exact HB.1 | apply aB_ | apply pN_ | apply dB_) | exact HB.1)) hb); clear HB; have HO380 := n0_; have HB := n1_; clear n0_ n1_; (try clear hb); (try clear hb2); (try clear hk); (try clear hi); (try clear ho0)))
  go_loopg [4, 5] k (fun kq v4 v5 w' => ∃ (x4_1 : ByteArray) (x5_1 : Int), v4 = .string x4_1 ∧ v5 = .int .i64 x5_1 ∧ Aside0 (laws_FnPieces.l0 kq l0 t378 x4_1 x5_1 = some true) ∧ Aside0 (kq ≤ k) ∧ Aside0 (Kd.R k28 28 w' w.heap.size (fun _ => True) v379 t378) ∧ Aside0 (Below w.heap.size w w'))
  case atStart => exact ⟨((⟨#[]⟩ : ByteArray)), (0), (by first | rfl | (simp; done) | (simp [*]; done) | (simp [empty_ne, *]; done)), (by first | rfl | (simp; done) | (simp [*]; done) | (simp [empty_ne, *]; done)), H', ⟨Nat.le_refl _⟩, ⟨by (with_reducible repeat (first | apply rA_ | apply rN_ | apply rD_)); first | exact HO380.1 | exact Kd.R_mono HO380.1 (fun k_ h_ e_ => h_ (e_.trans (ob_len _ _ _ _ _)))⟩, ⟨by repeat (first | (with_reducible first | exact HB.1 | apply aB_ | apply pN_ | apply dB_) | exact HB.1)⟩⟩
  case round =>
   clear H'
   try clear p2
   try clear c3
   try clear c4
   try clear c5
   obtain ⟨x4_1, x5_1, rfl, rfl, HA, HK1, HO_3, HB⟩ := hrel
   cases gk with
   | zero => exact absurd HA.1 (by simp [laws_FnPieces.l0])
   | succ k1 =>
    have H := HA.1
    clear HA
    simp only [laws_FnPieces.l0] at H
    by_cases c6 : x5_1 < (t378.length : Int)
    ·rw [if_pos c6] at H
     have c6b0 : decide (x5_1 < (t378.length : Int)) = true := decide_eq_true c6
     clear c6
     by_cases c7 : 0 ≤ x5_1
     ·rw [if_pos c7] at H
      have c7b0 : decide (0 ≤ x5_1) = true := decide_eq_true c7
      clear c7
      replace H := Option.bind_eq_some_iff.mp H
      obtain ⟨t382, A80, H⟩ := H
      replace H : (if x4_1.size + t382.size ≤ 9223372036854775807 then (laws_FnPieces.l0 k1 l0 t378 (x4_1 ++ t382) (wrap64 (x5_1 + 1))) else (none)) = some true := H
      have A8 := Aside0.mk A80
      clear A80
      by_cases c9 : x4_1.size + t382.size ≤ 9223372036854775807
      ·rw [if_pos c9] at H
       have c9b0 := eq_true c9
       have c9b1 : decide (x4_1.size + t382.size ≤ 9223372036854775807) = true := decide_eq_true c9
       try have c9b2 : (9223372036854775807 < x4_1.size + t382.size) = False := eq_false (Nat.not_lt.2 c9)
       have H' := Aside0.mk H
       clear H
       obtain ⟨Ao10, co10, eo10⟩ := Kd.R_slice HO_3.1
       subst eo10
       have p381 : 0 ≤ (x5_1 : Int) := of_decide_eq_true (by first | (with_reducible assumption) | assumption)
       have q381 : x5_1 < (t378.length : Int) := of_decide_eq_true (by first | (with_reducible assumption) | assumption)
       obtain ⟨ad381, e381, hx381_0, hx381_1, hx381_2, hx381_3, hx381_4⟩ := at_T28 (Kd.R_reads' HO_3.1).2.2 x5_1 p381 q381
       cases e381
       replace p381 := eq_true p381
       replace q381 := eq_true q381
       go_wp2_with (first | ((with_reducible refine gate_callee (f := 6) rfl ?_); refine goesL_ (some 29) rfl rfl Tryd.func6 (by kernel_rfl) rfl #[.agg #[.int .i64 ((rd_T28 t378 x5_1).f0), .string ((rd_T28 t378 x5_1).f1), .string ((rd_T28 t378 x5_1).f2), .bool ((rd_T28 t378 x5_1).f3), .string ((rd_T28 t378 x5_1).f4)]] rfl (by (try simp only [List.map_toArray, List.map_cons, List.map_nil]); first | done | rfl | (simp only [List.length_drop, List.length_take]; rfl)) ?_; (with_reducible refine (impl_PieceText.calls k1 ((rd_T28 t378 x5_1).f0) ((rd_T28 t378 x5_1).f1) ((rd_T28 t378 x5_1).f2) ((rd_T28 t378 x5_1).f3) ((rd_T28 t378 x5_1).f4) t382 _ A8.1).mono ?_); rintro e w11 ⟨rfl, hb⟩; refine ⟨_, rfl, ?_⟩; have n0_ := Aside0.mk (Kd.R_below (by (with_reducible repeat (first | apply rA_ | apply rN_ | apply rD_)); exact HO_3.1) hb); have n1_ := Aside0.mk (below_step (by repeat (first | (with_reducible first | exact HB.1 | apply aB_ | apply pN_ | apply dB_) | exact HB.1)) hb); clear HO_3 HB; have HO_3 := n0_; have HB := n1_; clear n0_ n1_; (try clear hb); (try clear hb2); (try clear hk); (try clear hi)))
       go_roundg k1
       case measure => have := HK1.1; omega
       case rel => exact ⟨(x4_1 ++ t382), (wrap64 (x5_1 + 1)), (by first | rfl | (simp; done) | (simp [*]; done) | (simp [empty_ne, *]; done)), (by first | rfl | (simp; done) | (simp [*]; done) | (simp [empty_ne, *]; done)), H', ⟨by have := HK1.1; omega⟩, ⟨by (with_reducible repeat (first | apply rA_ | apply rN_ | apply rD_)); first | exact HO_3.1 | exact Kd.R_mono HO_3.1 (fun k_ h_ e_ => h_ (e_.trans (ob_len _ _ _ _ _)))⟩, ⟨by repeat (first | (with_reducible first | exact HB.1 | apply aB_ | apply pN_ | apply dB_) | exact HB.1)⟩⟩
      ·rw [if_neg c9] at H
       exact absurd H (by simp)
     ·rw [if_neg c7] at H
      exact absurd H (by simp)
    ·rw [if_neg c6] at H
     have c6b0 : decide (x5_1 < (t378.length : Int)) = false := decide_eq_false c6
     clear c6
     replace H := Option.bind_eq_some_iff.mp H
     obtain ⟨⟨t383, t384⟩, A120, H⟩ := H
     replace H : ((spec_DrawPieces.f k1 l0).bind fun t387 => ((impl_Pieces.f k1 t387).bind fun bt388 => ((spec_Pieces.f k1 t387).bind fun bt392 => ((spec_DrawPieceText.f k1 l0).bind fun bt396 => (if t384 = true then ((laws_samePieces.f k1 t383 t378).bind fun t402 => (if t402 = true then (if (bt388.2 == bt392.2) = true then ((laws_samePieces.f k1 bt388.1 bt392.1).bind fun t403 => (if t403 = true then ((impl_PieceText.f k1 bt396.1 bt396.2.1 bt396.2.2.1 bt396.2.2.2.1 bt396.2.2.2.2).bind fun t404 => ((spec_PieceText.f k1 bt396.1 bt396.2.1 bt396.2.2.1 bt396.2.2.2.1 bt396.2.2.2.2).bind fun t405 => (some (t404.toList == t405.toList)))) else (some false))) else (some false)) else (some false))) else (some false)))))) = some true := H
     have A12 := Aside0.mk A120
     clear A120
     replace H := Option.bind_eq_some_iff.mp H
     obtain ⟨t387, A130, H⟩ := H
     replace H : ((impl_Pieces.f k1 t387).bind fun bt388 => ((spec_Pieces.f k1 t387).bind fun bt392 => ((spec_DrawPieceText.f k1 l0).bind fun bt396 => (if t384 = true then ((laws_samePieces.f k1 t383 t378).bind fun t402 => (if t402 = true then (if (bt388.2 == bt392.2) = true then ((laws_samePieces.f k1 bt388.1 bt392.1).bind fun t403 => (if t403 = true then ((impl_PieceText.f k1 bt396.1 bt396.2.1 bt396.2.2.1 bt396.2.2.2.1 bt396.2.2.2.2).bind fun t404 => ((spec_PieceText.f k1 bt396.1 bt396.2.1 bt396.2.2.1 bt396.2.2.2.1 bt396.2.2.2.2).bind fun t405 => (some (t404.toList == t405.toList)))) else (some false))) else (some false)) else (some false))) else (some false))))) = some true := H
     have A13 := Aside0.mk A130
     clear A130
     replace H := Option.bind_eq_some_iff.mp H
     obtain ⟨⟨t388, t389⟩, A140, H⟩ := H
     replace H : ((spec_Pieces.f k1 t387).bind fun bt392 => ((spec_DrawPieceText.f k1 l0).bind fun bt396 => (if t384 = true then ((laws_samePieces.f k1 t383 t378).bind fun t402 => (if t402 = true then (if (t389 == bt392.2) = true then ((laws_samePieces.f k1 t388 bt392.1).bind fun t403 => (if t403 = true then ((impl_PieceText.f k1 bt396.1 bt396.2.1 bt396.2.2.1 bt396.2.2.2.1 bt396.2.2.2.2).bind fun t404 => ((spec_PieceText.f k1 bt396.1 bt396.2.1 bt396.2.2.1 bt396.2.2.2.1 bt396.2.2.2.2).bind fun t405 => (some (t404.toList == t405.toList)))) else (some false))) else (some false)) else (some false))) else (some false)))) = some true := H
     have A14 := Aside0.mk A140
     clear A140
     replace H := Option.bind_eq_some_iff.mp H
     obtain ⟨⟨t392, t393⟩, A150, H⟩ := H
     replace H : ((spec_DrawPieceText.f k1 l0).bind fun bt396 => (if t384 = true then ((laws_samePieces.f k1 t383 t378).bind fun t402 => (if t402 = true then (if (t389 == t393) = true then ((laws_samePieces.f k1 t388 t392).bind fun t403 => (if t403 = true then ((impl_PieceText.f k1 bt396.1 bt396.2.1 bt396.2.2.1 bt396.2.2.2.1 bt396.2.2.2.2).bind fun t404 => ((spec_PieceText.f k1 bt396.1 bt396.2.1 bt396.2.2.1 bt396.2.2.2.1 bt396.2.2.2.2).bind fun t405 => (some (t404.toList == t405.toList)))) else (some false))) else (some false)) else (some false))) else (some false))) = some true := H
     have A15 := Aside0.mk A150
     clear A150
     replace H := Option.bind_eq_some_iff.mp H
     obtain ⟨⟨t396, t397, t398, t399, t400⟩, A160, H⟩ := H
     replace H : (if t384 = true then ((laws_samePieces.f k1 t383 t378).bind fun t402 => (if t402 = true then (if (t389 == t393) = true then ((laws_samePieces.f k1 t388 t392).bind fun t403 => (if t403 = true then ((impl_PieceText.f k1 t396 t397 t398 t399 t400).bind fun t404 => ((spec_PieceText.f k1 t396 t397 t398 t399 t400).bind fun t405 => (some (t404.toList == t405.toList)))) else (some false))) else (some false)) else (some false))) else (some false)) = some true := H
     have A16 := Aside0.mk A160
     clear A160
     by_cases c17 : t384 = true
     ·subst c17
      have H1 : ((laws_samePieces.f k1 t383 t378).bind fun t402 => (if t402 = true then (if (t389 == t393) = true then ((laws_samePieces.f k1 t388 t392).bind fun t403 => (if t403 = true then ((impl_PieceText.f k1 t396 t397 t398 t399 t400).bind fun t404 => ((spec_PieceText.f k1 t396 t397 t398 t399 t400).bind fun t405 => (some (t404.toList == t405.toList)))) else (some false))) else (some false)) else (some false))) = some true := by rw [if_pos rfl] at H; exact H
      clear H
      have H := H1
      clear H1
      replace H := Option.bind_eq_some_iff.mp H
      obtain ⟨t402, A180, H⟩ := H
      replace H : (if t402 = true then (if (t389 == t393) = true then ((laws_samePieces.f k1 t388 t392).bind fun t403 => (if t403 = true then ((impl_PieceText.f k1 t396 t397 t398 t399 t400).bind fun t404 => ((spec_PieceText.f k1 t396 t397 t398 t399 t400).bind fun t405 => (some (t404.toList == t405.toList)))) else (some false))) else (some false)) else (some false)) = some true := H
      have A18 := Aside0.mk A180
      clear A180
      by_cases c19 : t402 = true
      ·subst c19
       have H1 : (if (t389 == t393) = true then ((laws_samePieces.f k1 t388 t392).bind fun t403 => (if t403 = true then ((impl_PieceText.f k1 t396 t397 t398 t399 t400).bind fun t404 => ((spec_PieceText.f k1 t396 t397 t398 t399 t400).bind fun t405 => (some (t404.toList == t405.toList)))) else (some false))) else (some false)) = some true := by rw [if_pos rfl] at H; exact H
       clear H
       have H := H1
       clear H1
       by_cases c20 : (t389 == t393) = true
       ·rw [if_pos c20] at H
        have c20b0 : (t389 == t393) = true := c20
        (try (have c20b1 : decide (t389 = t393) = true := by simpa using c20))
        (try (have c20b2 : (t389 == t393) = true := by simpa using c20))
        clear c20
        replace H := Option.bind_eq_some_iff.mp H
        obtain ⟨t403, A210, H⟩ := H
        replace H : (if t403 = true then ((impl_PieceText.f k1 t396 t397 t398 t399 t400).bind fun t404 => ((spec_PieceText.f k1 t396 t397 t398 t399 t400).bind fun t405 => (some (t404.toList == t405.toList)))) else (some false)) = some true := H
        have A21 := Aside0.mk A210
        clear A210
        by_cases c22 : t403 = true
        ·subst c22
         have H1 : ((impl_PieceText.f k1 t396 t397 t398 t399 t400).bind fun t404 => ((spec_PieceText.f k1 t396 t397 t398 t399 t400).bind fun t405 => (some (t404.toList == t405.toList)))) = some true := by rw [if_pos rfl] at H; exact H
         clear H
         have H := H1
         clear H1
         replace H := Option.bind_eq_some_iff.mp H
         obtain ⟨t404, A230, H⟩ := H
         replace H : ((spec_PieceText.f k1 t396 t397 t398 t399 t400).bind fun t405 => (some (t404.toList == t405.toList))) = some true := H
         have A23 := Aside0.mk A230
         clear A230
         replace H := Option.bind_eq_some_iff.mp H
         obtain ⟨t405, A240, H⟩ := H
         replace H : (some (t404.toList == t405.toList)) = some true := H
         have A24 := Aside0.mk A240
         clear A240
         have hr_ := Option.some.inj H
         obtain ⟨Ao25, co25, eo25⟩ := Kd.R_slice HO_3.1
         subst eo25
         try go_wp2_with (first | ((with_reducible refine gate_callee (f := 7) rfl ?_); refine goesL_ (some 33) rfl rfl Tryd.func7 (by kernel_rfl) rfl #[.string x4_1] rfl (by (try simp only [List.map_toArray, List.map_cons, List.map_nil]); first | done | rfl | (simp only [List.length_drop, List.length_take]; rfl)) ?_; (with_reducible refine (impl_Pieces.calls k1 x4_1 t383 true _ A12.1 ?side99).mono ?_); (case side99 => first | (with_reducible exact hG) | (refine GOK_below hG ?_; (repeat (first | (with_reducible first | exact HB.1 | apply aB_ | apply pN_ | apply dB_ | refine sB_ ?_ GE401.1) | exact HB.1)); done) | (refine GOK_drawn hG ?_; (repeat (first | exact Drawn0.refl _ | apply Drawn0.step)); done) | exact hG); rintro e w26 ⟨v385, rfl, ho0, hb⟩; refine ⟨_, rfl, ?_⟩; have n0_ := Aside0.mk (Kd.R_elder' (by (with_reducible repeat (first | apply rA_ | apply rN_ | apply rD_)); exact HO_3.1) (Kd.R_base ho0) hb); have n1_ := Aside0.mk (Kd.R_lower (Kd.R_new' ho0 (Kd.R_lt (by (with_reducible repeat (first | apply rA_ | apply rN_ | apply rD_)); exact HO_3.1))) (below_size (by repeat (first | (with_reducible first | exact HB.1 | apply aB_ | apply pN_ | apply dB_) | exact HB.1)))); have n2_ := Aside0.mk (below_step (by repeat (first | (with_reducible first | exact HB.1 | apply aB_ | apply pN_ | apply dB_) | exact HB.1)) hb); clear HO_3 HB; have HO_3 := n0_; have HO386 := n1_; have HB := n2_; clear n0_ n1_ n2_; (try clear hb); (try clear hb2); (try clear hk); (try clear hi); (try clear ho0)) | ((with_reducible refine gate_callee (f := 8) rfl ?_); refine goesL_ (some 37) rfl rfl Tryd.func8 (by kernel_rfl) rfl #[.slice A0 l0.length c0] rfl (by (try simp only [List.map_toArray, List.map_cons, List.map_nil]); first | done | rfl | (simp only [List.length_drop, List.length_take]; rfl)) ?_; (with_reducible refine (spec_DrawPieces.calls k1 _ _ l0 t387 _ ?side1 ?side2 A13.1).mono ?_); (case side1 => repeat (first | exact (Kd.C_below HR0.1 HB.1) | (with_reducible refine Kd.C_alloc ?_ _) | (with_reducible refine Kd.C_drewN ?_ _) | (with_reducible refine Kd.C_drew ?_))); (case side2 => exact HC0.1); rintro e w27 ⟨rfl, hb⟩; refine ⟨_, rfl, ?_⟩; have n0_ := Aside0.mk (Kd.R_below (by (with_reducible repeat (first | apply rA_ | apply rN_ | apply rD_)); exact HO_3.1) hb); have n1_ := Aside0.mk (Kd.R_below (by (with_reducible repeat (first | apply rA_ | apply rN_ | apply rD_)); exact HO386.1) hb); have n2_ := Aside0.mk (below_step (by repeat (first | (with_reducible first | exact HB.1 | apply aB_ | apply pN_ | apply dB_) | exact HB.1)) hb); clear HO_3 HO386 HB; have HO_3 := n0_; have HO386 := n1_; have HB := n2_; clear n0_ n1_ n2_; (try clear hb); (try clear hb2); (try clear hk); (try clear hi)) | ((with_reducible refine gate_callee (f := 7) rfl ?_); refine goesL_ (some 40) rfl rfl Tryd.func7 (by kernel_rfl) rfl #[.string t387] rfl (by (try simp only [List.map_toArray, List.map_cons, List.map_nil]); first | done | rfl | (simp only [List.length_drop, List.length_take]; rfl)) ?_; (with_reducible refine (impl_Pieces.calls k1 t387 t388 t389 _ A14.1 ?side99).mono ?_); (case side99 => first | (with_reducible exact hG) | (refine GOK_below hG ?_; (repeat (first | (with_reducible first | exact HB.1 | apply aB_ | apply pN_ | apply dB_ | refine sB_ ?_ GE401.1) | exact HB.1)); done) | (refine GOK_drawn hG ?_; (repeat (first | exact Drawn0.refl _ | apply Drawn0.step)); done) | exact hG); rintro e w28 ⟨v390, rfl, ho0, hb⟩; refine ⟨_, rfl, ?_⟩; have n0_ := Aside0.mk (Kd.R_elder' (by (with_reducible repeat (first | apply rA_ | apply rN_ | apply rD_)); exact HO_3.1) (Kd.R_base ho0) hb); have n1_ := Aside0.mk (Kd.R_elder' (by (with_reducible repeat (first | apply rA_ | apply rN_ | apply rD_)); exact HO386.1) (Kd.R_base ho0) hb); have n2_ := Aside0.mk (Kd.R_lower (Kd.R_new' (Kd.R_new' ho0 (Kd.R_lt (by (with_reducible repeat (first | apply rA_ | apply rN_ | apply rD_)); exact HO_3.1))) (Kd.R_lt (by (with_reducible repeat (first | apply rA_ | apply rN_ | apply rD_)); exact HO386.1))) (below_size (by repeat (first | (with_reducible first | exact HB.1 | apply aB_ | apply pN_ | apply dB_) | exact HB.1)))); have n3_ := Aside0.mk (below_step (by repeat (first | (with_reducible first | exact HB.1 | apply aB_ | apply pN_ | apply dB_) | exact HB.1)) hb); clear HO_3 HO386 HB; have HO_3 := n0_; have HO386 := n1_; have HO391 := n2_; have HB := n3_; clear n0_ n1_ n2_ n3_; (try clear hb); (try clear hb2); (try clear hk); (try clear hi); (try clear ho0)) | ((with_reducible refine gate_callee (f := 9) rfl ?_); refine goesL_ (some 45) rfl rfl Tryd.func9 (by kernel_rfl) rfl #[.string t387] rfl (by (try simp only [List.map_toArray, List.map_cons, List.map_nil]); first | done | rfl | (simp only [List.length_drop, List.length_take]; rfl)) ?_; (with_reducible refine (spec_Pieces.calls k1 t387 t392 t393 _ A15.1).mono ?_); rintro e w29 ⟨v394, rfl, ho0, hb⟩; refine ⟨_, rfl, ?_⟩; have n0_ := Aside0.mk (Kd.R_elder' (by (with_reducible repeat (first | apply rA_ | apply rN_ | apply rD_)); exact HO_3.1) (Kd.R_base ho0) hb); have n1_ := Aside0.mk (Kd.R_elder' (by (with_reducible repeat (first | apply rA_ | apply rN_ | apply rD_)); exact HO386.1) (Kd.R_base ho0) hb); have n2_ := Aside0.mk (Kd.R_elder' (by (with_reducible repeat (first | apply rA_ | apply rN_ | apply rD_)); exact HO391.1) (Kd.R_base ho0) hb); have n3_ := Aside0.mk (Kd.R_lower (Kd.R_new' (Kd.R_new' (Kd.R_new' ho0 (Kd.R_lt (by (with_reducible repeat (first | apply rA_ | apply rN_ | apply rD_)); exact HO_3.1))) (Kd.R_lt (by (with_reducible repeat (first | apply rA_ | apply rN_ | apply rD_)); exact HO386.1))) (Kd.R_lt (by (with_reducible repeat (first | apply rA_ | apply rN_ | apply rD_)); exact HO391.1))) (below_size (by repeat (first | (with_reducible first | exact HB.1 | apply aB_ | apply pN_ | apply dB_) | exact HB.1)))); have n4_ := Aside0.mk (below_step (by repeat (first | (with_reducible first | exact HB.1 | apply aB_ | apply pN_ | apply dB_) | exact HB.1)) hb); clear HO_3 HO386; clear HO391 HB; have HO_3 := n0_; have HO386 := n1_; have HO391 := n2_; have HO395 := n3_; have HB := n4_; clear n0_ n1_ n2_ n3_ n4_; (try clear hb); (try clear hb2); (try clear hk); (try clear hi); (try clear ho0)) | ((with_reducible refine gate_callee (f := 10) rfl ?_); refine goesL_ (some 49) rfl rfl Tryd.func10 (by kernel_rfl) rfl #[.slice A0 l0.length c0] rfl (by (try simp only [List.map_toArray, List.map_cons, List.map_nil]); first | done | rfl | (simp only [List.length_drop, List.length_take]; rfl)) ?_; (with_reducible refine (spec_DrawPieceText.calls k1 _ _ l0 t396 t397 t398 t399 t400 _ ?side1 ?side2 A16.1).mono ?_); (case side1 => repeat (first | exact (Kd.C_below HR0.1 HB.1) | (with_reducible refine Kd.C_alloc ?_ _) | (with_reducible refine Kd.C_drewN ?_ _) | (with_reducible refine Kd.C_drew ?_))); (case side2 => exact HC0.1); rintro e w30 ⟨rfl, hb⟩; refine ⟨_, rfl, ?_⟩; have n0_ := Aside0.mk (Kd.R_below (by (with_reducible repeat (first | apply rA_ | apply rN_ | apply rD_)); exact HO_3.1) hb); have n1_ := Aside0.mk (Kd.R_below (by (with_reducible repeat (first | apply rA_ | apply rN_ | apply rD_)); exact HO386.1) hb); have n2_ := Aside0.mk (Kd.R_below (by (with_reducible repeat (first | apply rA_ | apply rN_ | apply rD_)); exact HO391.1) hb); have n3_ := Aside0.mk (Kd.R_below (by (with_reducible repeat (first | apply rA_ | apply rN_ | apply rD_)); exact HO395.1) hb); have n4_ := Aside0.mk (below_step (by repeat (first | (with_reducible first | exact HB.1 | apply aB_ | apply pN_ | apply dB_) | exact HB.1)) hb); clear HO_3 HO386; clear HO391 HO395 HB; have HO_3 := n0_; have HO386 := n1_; have HO391 := n2_; have HO395 := n3_; have HB := n4_; clear n0_ n1_ n2_ n3_ n4_; (try clear hb); (try clear hb2); (try clear hk); (try clear hi)) | ((with_reducible refine gate_dst (N := 13) rfl ?_); refine box_event ?hg (N := 13) ?hd (cs := #[.int .i64 0, .string (⟨#[]⟩ : ByteArray), .string (⟨#[]⟩ : ByteArray), .bool false, .string (⟨#[]⟩ : ByteArray)]) (t := 28) ?hr ?_; (case hd => rfl); (case hg => rfl); (case hr => first | (go_simp; done) | (go_simp; rfl)); intro gb401 hg w31 hbox hb; have n0_ := Aside0.mk (Kd.R_below (Kd.R_elderB (by (with_reducible repeat (first | apply rA_ | apply rN_ | apply rD_)); exact HO_3.1) gb401 (Nat.le_of_eq hg.symm)) hb); have n1_ := Aside0.mk (Kd.R_below (Kd.R_elderB (by (with_reducible repeat (first | apply rA_ | apply rN_ | apply rD_)); exact HO386.1) gb401 (Nat.le_of_eq hg.symm)) hb); have n2_ := Aside0.mk (Kd.R_below (Kd.R_elderB (by (with_reducible repeat (first | apply rA_ | apply rN_ | apply rD_)); exact HO391.1) gb401 (Nat.le_of_eq hg.symm)) hb); have n3_ := Aside0.mk (Kd.R_below (Kd.R_elderB (by (with_reducible repeat (first | apply rA_ | apply rN_ | apply rD_)); exact HO395.1) gb401 (Nat.le_of_eq hg.symm)) hb); have n4_ := Aside0.mk (below_step (by repeat (first | (with_reducible first | exact HB.1 | apply aB_ | apply pN_ | apply dB_) | exact HB.1)) hb); have n5_ := Aside0.mk (hbox); have n6_ := Aside0.mk ((by rw [hg]; exact (below_size (by repeat (first | (with_reducible first | exact HB.1 | apply aB_ | apply pN_ | apply dB_) | exact HB.1))) : w.heap.size ≤ gb401)); have n7_ := Aside0.mk ((by rw [hg]; exact (below_size (by repeat (first | (with_reducible first | exact HB.1 | apply aB_ | apply pN_ | apply dB_) | exact HB.1))) : w.heap.size ≤ gb401)); clear HO_3 HO386; clear HO391 HO395 HB; have HO_3 := n0_; have HO386 := n1_; have HO391 := n2_; have HO395 := n3_; have HB := n4_; have BK401 := n5_; have GW401 := n6_; have GE401 := n7_; clear n0_ n1_ n2_ n3_ n4_ n5_ n6_ n7_; clear hb hbox hg; have hcz32_0 : w31.cell? ⟨gb401, 0, none⟩ = some (.int .i64 0) := (bc_ BK401.1 0).trans rfl; have hcz32_1 : w31.cell? ⟨gb401, 1, none⟩ = some (.string (⟨#[]⟩ : ByteArray)) := (bc_ BK401.1 1).trans rfl; have hcz32_2 : w31.cell? ⟨gb401, 2, none⟩ = some (.string (⟨#[]⟩ : ByteArray)) := (bc_ BK401.1 2).trans rfl; have hcz32_3 : w31.cell? ⟨gb401, 3, none⟩ = some (.bool false) := (bc_ BK401.1 3).trans rfl; have hcz32_4 : w31.cell? ⟨gb401, 4, none⟩ = some (.string (⟨#[]⟩ : ByteArray)) := (bc_ BK401.1 4).trans rfl; have hfz32_0 := bF_ BK401.1 0; have hfz32_1 := bF_ BK401.1 1; have hfz32_2 := bF_ BK401.1 2; have hfz32_3 := bF_ BK401.1 3; have hfz32_4 := bF_ BK401.1 4))
         have n0_ : Aside0 (Kd.R k28 28 (((((w31.setCell ⟨gb401, 0, none⟩ (.int .i64 t396)).setCell ⟨gb401, 1, none⟩ (.string t397)).setCell ⟨gb401, 2, none⟩ (.string t398)).setCell ⟨gb401, 3, none⟩ (.bool t399)).setCell ⟨gb401, 4, none⟩ (.string t400)) w.heap.size (fun k_ => some k_ ≠ (v385 : Value).ownBlock ∧ some k_ ≠ (v390 : Value).ownBlock ∧ some k_ ≠ (v394 : Value).ownBlock ∧ k_ ≠ gb401) (.slice Ao25 t378.length co25) t378) := ⟨by (with_reducible repeat (first | apply rA_ | apply rN_ | apply rD_)); exact Kd.R_mono (rF_ (p := ⟨gb401, 4, none⟩) (rF_ (p := ⟨gb401, 3, none⟩) (rF_ (p := ⟨gb401, 2, none⟩) (rF_ (p := ⟨gb401, 1, none⟩) (rF_ (p := ⟨gb401, 0, none⟩) (Kd.R_mono HO_3.1 (fun k_ hk => (⟨hk, hk.2⟩ : _ ∧ k_ ≠ gb401))) (fun _ hk => hk.2) (.int .i64 t396)) (fun _ hk => hk.2) (.string t397)) (fun _ hk => hk.2) (.string t398)) (fun _ hk => hk.2) (.bool t399)) (fun _ hk => hk.2) (.string t400)) (fun _ hk => ⟨hk.1.1.1.1.2, ⟨hk.1.1.1.2, ⟨hk.1.1.2, hk.1.2⟩⟩⟩)⟩
         have n1_ : Aside0 (Kd.R k28 28 (((((w31.setCell ⟨gb401, 0, none⟩ (.int .i64 t396)).setCell ⟨gb401, 1, none⟩ (.string t397)).setCell ⟨gb401, 2, none⟩ (.string t398)).setCell ⟨gb401, 3, none⟩ (.bool t399)).setCell ⟨gb401, 4, none⟩ (.string t400)) w.heap.size (fun k_ => some k_ ≠ (.slice Ao25 t378.length co25 : Value).ownBlock ∧ some k_ ≠ (v390 : Value).ownBlock ∧ some k_ ≠ (v394 : Value).ownBlock ∧ k_ ≠ gb401) v385 t383) := ⟨by (with_reducible repeat (first | apply rA_ | apply rN_ | apply rD_)); exact Kd.R_mono (rF_ (p := ⟨gb401, 4, none⟩) (rF_ (p := ⟨gb401, 3, none⟩) (rF_ (p := ⟨gb401, 2, none⟩) (rF_ (p := ⟨gb401, 1, none⟩) (rF_ (p := ⟨gb401, 0, none⟩) (Kd.R_mono HO386.1 (fun k_ hk => (⟨hk, hk.2⟩ : _ ∧ k_ ≠ gb401))) (fun _ hk => hk.2) (.int .i64 t396)) (fun _ hk => hk.2) (.string t397)) (fun _ hk => hk.2) (.string t398)) (fun _ hk => hk.2) (.bool t399)) (fun _ hk => hk.2) (.string t400)) (fun _ hk => ⟨hk.1.1.1.1.2, ⟨hk.1.1.1.2, ⟨hk.1.1.2, hk.1.2⟩⟩⟩)⟩
         have n2_ : Aside0 (Kd.R k28 28 (((((w31.setCell ⟨gb401, 0, none⟩ (.int .i64 t396)).setCell ⟨gb401, 1, none⟩ (.string t397)).setCell ⟨gb401, 2, none⟩ (.string t398)).setCell ⟨gb401, 3, none⟩ (.bool t399)).setCell ⟨gb401, 4, none⟩ (.string t400)) w.heap.size (fun k_ => some k_ ≠ (.slice Ao25 t378.length co25 : Value).ownBlock ∧ some k_ ≠ (v385 : Value).ownBlock ∧ some k_ ≠ (v394 : Value).ownBlock ∧ k_ ≠ gb401) v390 t388) := ⟨by (with_reducible repeat (first | apply rA_ | apply rN_ | apply rD_)); exact Kd.R_mono (rF_ (p := ⟨gb401, 4, none⟩) (rF_ (p := ⟨gb401, 3, none⟩) (rF_ (p := ⟨gb401, 2, none⟩) (rF_ (p := ⟨gb401, 1, none⟩) (rF_ (p := ⟨gb401, 0, none⟩) (Kd.R_mono HO391.1 (fun k_ hk => (⟨hk, hk.2⟩ : _ ∧ k_ ≠ gb401))) (fun _ hk => hk.2) (.int .i64 t396)) (fun _ hk => hk.2) (.string t397)) (fun _ hk => hk.2) (.string t398)) (fun _ hk => hk.2) (.bool t399)) (fun _ hk => hk.2) (.string t400)) (fun _ hk => ⟨hk.1.1.1.1.2, ⟨hk.1.1.1.2, ⟨hk.1.1.2, hk.1.2⟩⟩⟩)⟩
         have n3_ : Aside0 (Kd.R k28 28 (((((w31.setCell ⟨gb401, 0, none⟩ (.int .i64 t396)).setCell ⟨gb401, 1, none⟩ (.string t397)).setCell ⟨gb401, 2, none⟩ (.string t398)).setCell ⟨gb401, 3, none⟩ (.bool t399)).setCell ⟨gb401, 4, none⟩ (.string t400)) w.heap.size (fun k_ => some k_ ≠ (.slice Ao25 t378.length co25 : Value).ownBlock ∧ some k_ ≠ (v385 : Value).ownBlock ∧ some k_ ≠ (v390 : Value).ownBlock ∧ k_ ≠ gb401) v394 t392) := ⟨by (with_reducible repeat (first | apply rA_ | apply rN_ | apply rD_)); exact Kd.R_mono (rF_ (p := ⟨gb401, 4, none⟩) (rF_ (p := ⟨gb401, 3, none⟩) (rF_ (p := ⟨gb401, 2, none⟩) (rF_ (p := ⟨gb401, 1, none⟩) (rF_ (p := ⟨gb401, 0, none⟩) (Kd.R_mono HO395.1 (fun k_ hk => (⟨hk, hk.2⟩ : _ ∧ k_ ≠ gb401))) (fun _ hk => hk.2) (.int .i64 t396)) (fun _ hk => hk.2) (.string t397)) (fun _ hk => hk.2) (.string t398)) (fun _ hk => hk.2) (.bool t399)) (fun _ hk => hk.2) (.string t400)) (fun _ hk => ⟨hk.1.1.1.1.2, ⟨hk.1.1.1.2, ⟨hk.1.1.2, hk.1.2⟩⟩⟩)⟩
         have n4_ : Aside0 ((((((w31.setCell ⟨gb401, 0, none⟩ (.int .i64 t396)).setCell ⟨gb401, 1, none⟩ (.string t397)).setCell ⟨gb401, 2, none⟩ (.string t398)).setCell ⟨gb401, 3, none⟩ (.bool t399)).setCell ⟨gb401, 4, none⟩ (.string t400)).heap[gb401]? = some (.cells #[.int .i64 t396, .string t397, .string t398, .bool t399, .string t400] 28 (0, 0))) := ⟨by (with_reducible repeat (first | refine bN_ ?_ _ | refine bD_ ?_ | refine bA_ ?_ _)); refine blk_put (cs := #[.int .i64 t396, .string t397, .string t398, .bool t399, .string (⟨#[]⟩ : ByteArray)]) ?_ 4 _ rfl; (with_reducible repeat (first | refine bN_ ?_ _ | refine bD_ ?_ | refine bA_ ?_ _)); refine blk_put (cs := #[.int .i64 t396, .string t397, .string t398, .bool false, .string (⟨#[]⟩ : ByteArray)]) ?_ 3 _ rfl; (with_reducible repeat (first | refine bN_ ?_ _ | refine bD_ ?_ | refine bA_ ?_ _)); refine blk_put (cs := #[.int .i64 t396, .string t397, .string (⟨#[]⟩ : ByteArray), .bool false, .string (⟨#[]⟩ : ByteArray)]) ?_ 2 _ rfl; (with_reducible repeat (first | refine bN_ ?_ _ | refine bD_ ?_ | refine bA_ ?_ _)); refine blk_put (cs := #[.int .i64 t396, .string (⟨#[]⟩ : ByteArray), .string (⟨#[]⟩ : ByteArray), .bool false, .string (⟨#[]⟩ : ByteArray)]) ?_ 1 _ rfl; (with_reducible repeat (first | refine bN_ ?_ _ | refine bD_ ?_ | refine bA_ ?_ _)); refine blk_put (cs := #[.int .i64 0, .string (⟨#[]⟩ : ByteArray), .string (⟨#[]⟩ : ByteArray), .bool false, .string (⟨#[]⟩ : ByteArray)]) ?_ 0 _ rfl; (with_reducible repeat (first | refine bN_ ?_ _ | refine bD_ ?_ | refine bA_ ?_ _)); exact BK401.1⟩
         have n5_ : Aside0 (Below w.heap.size w (((((w31.setCell ⟨gb401, 0, none⟩ (.int .i64 t396)).setCell ⟨gb401, 1, none⟩ (.string t397)).setCell ⟨gb401, 2, none⟩ (.string t398)).setCell ⟨gb401, 3, none⟩ (.bool t399)).setCell ⟨gb401, 4, none⟩ (.string t400))) := ⟨by repeat (first | (with_reducible first | exact HB.1 | apply aB_ | apply pN_ | apply dB_ | refine sB_ ?_ GE401.1) | exact HB.1)⟩
         (try clear HO_3)
         (try clear HO386)
         (try clear HO391)
         (try clear HO395)
         (try clear BK401)
         (try clear HB)
         generalize (((((w31.setCell ⟨gb401, 0, none⟩ (.int .i64 t396)).setCell ⟨gb401, 1, none⟩ (.string t397)).setCell ⟨gb401, 2, none⟩ (.string t398)).setCell ⟨gb401, 3, none⟩ (.bool t399)).setCell ⟨gb401, 4, none⟩ (.string t400)) = w33 at n0_ n1_ n2_ n3_ n4_ n5_ ⊢
         have HO_3 := n0_
         have HO386 := n1_
         have HO391 := n2_
         have HO395 := n3_
         have BK401 := n4_
         have HB := n5_
         clear n0_ n1_ n2_ n3_ n4_ n5_
         have n0_ := Aside0.mk (rD_ HO_3.1)
         have n1_ := Aside0.mk (rD_ HO386.1)
         have n2_ := Aside0.mk (rD_ HO391.1)
         have n3_ := Aside0.mk (rD_ HO395.1)
         have n4_ := Aside0.mk (bD_ BK401.1)
         have n5_ := Aside0.mk (dB_ HB.1)
         clear HO_3 HO386 HO391 HO395 BK401 HB
         have HO_3 := n0_
         have HO386 := n1_
         have HO391 := n2_
         have HO395 := n3_
         have BK401 := n4_
         have HB := n5_
         clear n0_ n1_ n2_ n3_ n4_ n5_
         obtain ⟨Ao35, co35, eo35⟩ := Kd.R_slice HO386.1
         (first | subst eo35 | (injection eo35 with f1_ f2_ f3_; have f4_ := f1_.symm; have f5_ := f3_.symm; clear f1_ f2_ f3_; subst f4_; subst f5_))
         refine start_ (n := 24) (S := fun w' => w'.cell? ⟨gb401, 0, none⟩ = some (.int .i64 t396) ∧ w'.cell? ⟨gb401, 1, none⟩ = some (.string t397) ∧ w'.cell? ⟨gb401, 2, none⟩ = some (.string t398) ∧ w'.cell? ⟨gb401, 3, none⟩ = some (.bool t399) ∧ w'.cell? ⟨gb401, 4, none⟩ = some (.string t400)) (ds := []) #[false, false, false, false, false, false, false, false, false, false, false, false, false, false, false, false, false, false, false, false, false, false, false, false] (by kernel_rfl) rfl rfl ⟨(bc_ BK401.1 0).trans rfl, (bc_ BK401.1 1).trans rfl, (bc_ BK401.1 2).trans rfl, (bc_ BK401.1 3).trans rfl, (bc_ BK401.1 4).trans rfl⟩ (fun hHeld => ?_); refine with_tabW laws_FnPieces.tab14 laws_FnPieces.bits14 (fun HT_ HW_ => ?_)
         generalize w33.drew = w34 at HO_3 HO386 HO391 HO395 BK401 HB hHeld ⊢
         refine pure_ (i := 0) (N := some 50) (v := ?_) (a' := ?_) #[true, false, false, false, false, false, false, false, false, false, false, false, false, false, false, false, false, false, false, false, false, false, false, false] rfl rfl (any_of HT_.1 (by kernel_rfl)) (fun _ _ _ h => h) (Or.inl ⟨by rfl, ?_⟩) ?_ ?_
         rotate_left
         ·intro w'
          go_simp
          with_reducible rfl
         rotate_left
         ·simp only [Act.put, List.setIfInBounds_toArray, List.set_cons_zero, List.set_cons_succ, i64_w, i32_w]
          rfl
         refine pure_ (i := 1) (N := some 51) (v := ?_) (a' := ?_) #[true, true, false, false, false, false, false, false, false, false, false, false, false, false, false, false, false, false, false, false, false, false, false, false] rfl rfl (any_of HT_.1 (by kernel_rfl)) (fun _ _ _ h => h) (Or.inl ⟨by rfl, ?_⟩) ?_ ?_
         rotate_left
         ·intro w'
          go_simp
          with_reducible rfl
         rotate_left
         ·simp only [Act.put, List.setIfInBounds_toArray, List.set_cons_zero, List.set_cons_succ, i64_w, i32_w]
          rfl
         refine pure_ (i := 2) (N := some 52) (v := ?_) (a' := ?_) #[true, true, true, false, false, false, false, false, false, false, false, false, false, false, false, false, false, false, false, false, false, false, false, false] rfl rfl (any_of HT_.1 (by kernel_rfl)) (fun _ _ _ h => h) (Or.inl ⟨by rfl, ?_⟩) ?_ ?_
         rotate_left
         ·intro w'
          go_simp
          with_reducible rfl
         rotate_left
         ·simp only [Act.put, List.setIfInBounds_toArray, List.set_cons_zero, List.set_cons_succ, i64_w, i32_w]
          rfl
         refine pure_ (i := 3) (N := some 53) (v := ?_) (a' := ?_) #[true, true, true, true, false, false, false, false, false, false, false, false, false, false, false, false, false, false, false, false, false, false, false, false] rfl rfl (any_of HT_.1 (by kernel_rfl)) (fun _ _ _ h => h) (Or.inl ⟨by rfl, ?_⟩) ?_ ?_
         rotate_left
         ·intro w'
          go_simp
          with_reducible rfl
         rotate_left
         ·simp only [Act.put, List.setIfInBounds_toArray, List.set_cons_zero, List.set_cons_succ, i64_w, i32_w]
          rfl
         refine one_ (i := 4) (N := some 54) #[true, true, true, true, true, false, false, false, false, false, false, false, false, false, false, false, false, false, false, false, false, false, false, false] rfl rfl (one_of HT_.1 (by kernel_rfl)) (by decide) (fun K hK => ?_)
         refine goes_ Tryd.func11 (by kernel_rfl) rfl #[.slice Ao35 t383.length co35, .slice Ao25 t378.length co25] (by rfl) rfl rfl (by (try simp only [List.map_toArray, List.map_cons, List.map_nil]); first | done | rfl | (simp only [List.length_drop, List.length_take]; rfl)) ?_
         with_reducible refine (laws_samePieces.calls k1 _ _ t383 _ _ t378 true _ ?side1 ?side2 ?side3 ?side4 A18.1).mono ?_
         (case side1 => repeat (first | exact (Kd.R_reads' HO386.1).2.2 | (with_reducible refine Kd.C_alloc ?_ _) | (with_reducible refine Kd.C_drewN ?_ _) | (with_reducible refine Kd.C_drew ?_)))
         (case side2 => exact (Kd.R_reads' HO386.1).2.1)
         (case side3 => repeat (first | exact (Kd.R_reads' HO_3.1).2.2 | (with_reducible refine Kd.C_alloc ?_ _) | (with_reducible refine Kd.C_drewN ?_ _) | (with_reducible refine Kd.C_drew ?_)))
         (case side4 => exact (Kd.R_reads' HO_3.1).2.1)
         rintro e w' ⟨rfl, ⟨nd, rfl⟩⟩
         refine ⟨_, rfl, ?_⟩
         obtain ⟨Ao36, co36, eo36⟩ := Kd.R_slice HO391.1
         (first | subst eo36 | (injection eo36 with f1_ f2_ f3_; have f4_ := f1_.symm; have f5_ := f3_.symm; clear f1_ f2_ f3_; subst f4_; subst f5_))
         obtain ⟨Ao37, co37, eo37⟩ := Kd.R_slice HO395.1
         (first | subst eo37 | (injection eo37 with f1_ f2_ f3_; have f4_ := f1_.symm; have f5_ := f3_.symm; clear f1_ f2_ f3_; subst f4_; subst f5_))
         refine hK.out _ _ ⟨(bc_ BK401.1 0).trans rfl, (bc_ BK401.1 1).trans rfl, (bc_ BK401.1 2).trans rfl, (bc_ BK401.1 3).trans rfl, (bc_ BK401.1 4).trans rfl⟩ (fun hHeld => ?_)
         clear hK K
         refine norm_ (a' := ?_) ?_ ?_
         rotate_left
         ·show Act.put _ (some 54) _ = _
          simp only [Act.put, List.setIfInBounds_toArray, List.set_cons_zero, List.set_cons_succ, i64_w, i32_w]
          rfl
         refine pure_ (i := 5) (N := some 55) (v := ?_) (a' := ?_) #[true, true, true, true, true, true, false, false, false, false, false, false, false, false, false, false, false, false, false, false, false, false, false, false] rfl rfl (any_of HT_.1 (by kernel_rfl)) (fun _ _ _ h => h) (Or.inl ⟨by rfl, ?_⟩) ?_ ?_
         rotate_left
         ·intro w'
          go_simp
          with_reducible rfl
         rotate_left
         ·simp only [Act.put, List.setIfInBounds_toArray, List.set_cons_zero, List.set_cons_succ, i64_w, i32_w]
          rfl
         refine pure_ (i := 6) (N := some 56) (v := ?_) (a' := ?_) #[true, true, true, true, true, true, true, false, false, false, false, false, false, false, false, false, false, false, false, false, false, false, false, false] rfl rfl (any_of HT_.1 (by kernel_rfl)) (fun _ _ _ h => h) (Or.inl ⟨by rfl, ?_⟩) ?_ ?_
         rotate_left
         ·intro w'
          go_simp
          with_reducible rfl
         rotate_left
         ·simp only [Act.put, List.setIfInBounds_toArray, List.set_cons_zero, List.set_cons_succ, i64_w, i32_w]
          rfl
         refine pure_ (i := 7) (N := some 57) (v := ?_) (a' := ?_) #[true, true, true, true, true, true, true, true, false, false, false, false, false, false, false, false, false, false, false, false, false, false, false, false] rfl rfl (any_of HT_.1 (by kernel_rfl)) (fun _ _ _ h => h) (Or.inl ⟨by rfl, ?_⟩) ?_ ?_
         rotate_left
         ·intro w'
          go_simp
          with_reducible rfl
         rotate_left
         ·simp only [Act.put, List.setIfInBounds_toArray, List.set_cons_zero, List.set_cons_succ, i64_w, i32_w]
          rfl
         refine pure_ (i := 8) (N := some 58) (v := ?_) (a' := ?_) #[true, true, true, true, true, true, true, true, true, false, false, false, false, false, false, false, false, false, false, false, false, false, false, false] rfl rfl (any_of HT_.1 (by kernel_rfl)) (fun _ _ _ h => h) (Or.inl ⟨by rfl, ?_⟩) ?_ ?_
         rotate_left
         ·intro w'
          go_simp
          with_reducible rfl
         rotate_left
         ·simp only [Act.put, List.setIfInBounds_toArray, List.set_cons_zero, List.set_cons_succ, i64_w, i32_w]
          rfl
         refine pure_ (i := 9) (N := some 59) (v := ?_) (a' := ?_) #[true, true, true, true, true, true, true, true, true, true, false, false, false, false, false, false, false, false, false, false, false, false, false, false] rfl rfl (any_of HT_.1 (by kernel_rfl)) (fun _ _ _ h => h) (Or.inl ⟨by rfl, ?_⟩) ?_ ?_
         rotate_left
         ·intro w'
          go_simp
          with_reducible rfl
         rotate_left
         ·simp only [Act.put, List.setIfInBounds_toArray, List.set_cons_zero, List.set_cons_succ, i64_w, i32_w]
          rfl
         refine pure_ (i := 10) (N := some 60) (v := ?_) (a' := ?_) #[true, true, true, true, true, true, true, true, true, true, true, false, false, false, false, false, false, false, false, false, false, false, false, false] rfl rfl (any_of HT_.1 (by kernel_rfl)) (fun _ _ _ h => h) (Or.inl ⟨by rfl, ?_⟩) ?_ ?_
         rotate_left
         ·intro w'
          go_simp
          with_reducible rfl
         rotate_left
         ·simp only [Act.put, List.setIfInBounds_toArray, List.set_cons_zero, List.set_cons_succ, i64_w, i32_w]
          rfl
         refine pure_ (i := 11) (N := some 61) (v := ?_) (a' := ?_) #[true, true, true, true, true, true, true, true, true, true, true, true, false, false, false, false, false, false, false, false, false, false, false, false] rfl rfl (any_of HT_.1 (by kernel_rfl)) (fun _ _ _ h => h) (Or.inl ⟨by rfl, ?_⟩) ?_ ?_
         rotate_left
         ·intro w'
          go_simp
          with_reducible rfl
         rotate_left
         ·simp only [Act.put, List.setIfInBounds_toArray, List.set_cons_zero, List.set_cons_succ, i64_w, i32_w]
          rfl
         refine pure_ (i := 12) (N := some 62) (v := ?_) (a' := ?_) #[true, true, true, true, true, true, true, true, true, true, true, true, true, false, false, false, false, false, false, false, false, false, false, false] rfl rfl (any_of HT_.1 (by kernel_rfl)) (fun _ _ _ h => h) (Or.inl ⟨by rfl, ?_⟩) ?_ ?_
         rotate_left
         ·intro w'
          go_simp
          with_reducible rfl
         rotate_left
         ·simp only [Act.put, List.setIfInBounds_toArray, List.set_cons_zero, List.set_cons_succ, i64_w, i32_w]
          rfl
         refine pure_ (i := 13) (N := some 63) (v := ?_) (a' := ?_) #[true, true, true, true, true, true, true, true, true, true, true, true, true, true, false, false, false, false, false, false, false, false, false, false] rfl rfl (any_of HT_.1 (by kernel_rfl)) (fun _ _ _ h => h) (Or.inl ⟨by rfl, ?_⟩) ?_ ?_
         rotate_left
         ·intro w'
          go_simp
          with_reducible rfl
         rotate_left
         ·simp only [Act.put, List.setIfInBounds_toArray, List.set_cons_zero, List.set_cons_succ, i64_w, i32_w]
          rfl
         refine one_ (i := 14) (N := some 64) #[true, true, true, true, true, true, true, true, true, true, true, true, true, true, true, false, false, false, false, false, false, false, false, false] rfl rfl (one_of HT_.1 (by kernel_rfl)) (by decide) (fun K hK => ?_)
         refine goes_ Tryd.func11 (by kernel_rfl) rfl #[.slice Ao36 t388.length co36, .slice Ao37 t392.length co37] (by rfl) rfl rfl (by (try simp only [List.map_toArray, List.map_cons, List.map_nil]); first | done | rfl | (simp only [List.length_drop, List.length_take]; rfl)) ?_
         with_reducible refine (laws_samePieces.calls k1 _ _ t388 _ _ t392 true _ ?side1 ?side2 ?side3 ?side4 A21.1).mono ?_
         (case side1 => repeat (first | exact (Kd.R_reads' HO391.1).2.2 | (with_reducible refine Kd.C_alloc ?_ _) | (with_reducible refine Kd.C_drewN ?_ _) | (with_reducible refine Kd.C_drew ?_)))
         (case side2 => exact (Kd.R_reads' HO391.1).2.1)
         (case side3 => repeat (first | exact (Kd.R_reads' HO395.1).2.2 | (with_reducible refine Kd.C_alloc ?_ _) | (with_reducible refine Kd.C_drewN ?_ _) | (with_reducible refine Kd.C_drew ?_)))
         (case side4 => exact (Kd.R_reads' HO395.1).2.1)
         rintro e w' ⟨rfl, ⟨nd, rfl⟩⟩
         refine ⟨_, rfl, ?_⟩
         refine hK.out _ _ ⟨(bc_ BK401.1 0).trans rfl, (bc_ BK401.1 1).trans rfl, (bc_ BK401.1 2).trans rfl, (bc_ BK401.1 3).trans rfl, (bc_ BK401.1 4).trans rfl⟩ (fun hHeld => ?_)
         clear hK K
         refine norm_ (a' := ?_) ?_ ?_
         rotate_left
         ·show Act.put _ (some 64) _ = _
          simp only [Act.put, List.setIfInBounds_toArray, List.set_cons_zero, List.set_cons_succ, i64_w, i32_w]
          rfl
         refine pure_ (i := 15) (N := some 65) (v := ?_) (a' := ?_) #[true, true, true, true, true, true, true, true, true, true, true, true, true, true, true, true, false, false, false, false, false, false, false, false] rfl rfl (any_of HT_.1 (by kernel_rfl)) (fun _ _ _ h => h) (Or.inl ⟨by rfl, ?_⟩) ?_ ?_
         rotate_left
         ·intro w'
          go_simp
          with_reducible rfl
         rotate_left
         ·simp only [Act.put, List.setIfInBounds_toArray, List.set_cons_zero, List.set_cons_succ, i64_w, i32_w]
          rfl
         refine pure_ (i := 16) (N := some 66) (v := ?_) (a' := ?_) #[true, true, true, true, true, true, true, true, true, true, true, true, true, true, true, true, true, false, false, false, false, false, false, false] rfl rfl (any_of HT_.1 (by kernel_rfl)) (fun _ _ _ h => h) (Or.inl ⟨by rfl, ?_⟩) ?_ ?_
         rotate_left
         ·intro w'
          go_simp
          with_reducible rfl
         rotate_left
         ·simp only [Act.put, List.setIfInBounds_toArray, List.set_cons_zero, List.set_cons_succ, i64_w, i32_w]
          rfl
         refine take_ (i := 17) (N := some 67) (v := ?_) (a' := ?_) #[true, true, true, true, true, true, true, true, true, true, true, true, true, true, true, true, true, true, false, false, false, false, false, false] rfl rfl (take_ofW HT_.1 HW_.1 (by kernel_rfl)) (fun _ _ _ h => h) (Or.inl ⟨by rfl, ?_⟩) hHeld ?_ ?_
         rotate_left
         ·rintro w' ⟨s0, s1, s2, s3, s4⟩
          go_simp
          with_reducible rfl
         rotate_left
         ·simp only [Act.put, List.setIfInBounds_toArray, List.set_cons_zero, List.set_cons_succ, i64_w, i32_w]
          rfl
         refine take_ (i := 19) (N := some 69) (v := ?_) (a' := ?_) #[true, true, true, true, true, true, true, true, true, true, true, true, true, true, true, true, true, true, false, true, false, false, false, false] rfl rfl (take_ofW HT_.1 HW_.1 (by kernel_rfl)) (fun _ _ _ h => h) (Or.inl ⟨by rfl, ?_⟩) hHeld ?_ ?_
         rotate_left
         ·rintro w' ⟨s0, s1, s2, s3, s4⟩
          go_simp
          with_reducible rfl
         rotate_left
         ·simp only [Act.put, List.setIfInBounds_toArray, List.set_cons_zero, List.set_cons_succ, i64_w, i32_w]
          rfl
         refine one_ (i := 18) (N := some 68) #[true, true, true, true, true, true, true, true, true, true, true, true, true, true, true, true, true, true, true, true, false, false, false, false] rfl rfl (one_of HT_.1 (by kernel_rfl)) (by decide) (fun K hK => ?_)
         refine goes_ Tryd.func6 (by kernel_rfl) rfl #[.agg #[.int .i64 t396, .string t397, .string t398, .bool t399, .string t400]] (by rfl) rfl rfl (by (try simp only [List.map_toArray, List.map_cons, List.map_nil]); first | done | rfl | (simp only [List.length_drop, List.length_take]; rfl)) ?_
         with_reducible refine (impl_PieceText.calls k1 t396 t397 t398 t399 t400 t404 _ A23.1).mono ?_
         rintro e w38 ⟨rfl, hb⟩
         refine ⟨_, rfl, ?_⟩
         have n0_ := Aside0.mk (Kd.R_below (by (with_reducible repeat (first | apply rA_ | apply rN_ | apply rD_)); exact HO_3.1) hb)
         have n1_ := Aside0.mk (Kd.R_below (by (with_reducible repeat (first | apply rA_ | apply rN_ | apply rD_)); exact HO386.1) hb)
         have n2_ := Aside0.mk (Kd.R_below (by (with_reducible repeat (first | apply rA_ | apply rN_ | apply rD_)); exact HO391.1) hb)
         have n3_ := Aside0.mk (Kd.R_below (by (with_reducible repeat (first | apply rA_ | apply rN_ | apply rD_)); exact HO395.1) hb)
         have n4_ := Aside0.mk (bB_ (g := gb401) (o := .cells #[.int .i64 t396, .string t397, .string t398, .bool t399, .string t400] 28 (0, 0)) (by (with_reducible repeat (first | refine bN_ ?_ _ | refine bD_ ?_ | refine bA_ ?_ _)); exact BK401.1) hb)
         have n5_ := Aside0.mk (below_step (by repeat (first | (with_reducible first | exact HB.1 | apply aB_ | apply pN_ | apply dB_ | refine sB_ ?_ GE401.1) | exact HB.1)) hb)
         clear HO_3 HO386 HO391 HO395 BK401 HB
         have HO_3 := n0_
         have HO386 := n1_
         have HO391 := n2_
         have HO395 := n3_
         have BK401 := n4_
         have HB := n5_
         clear n0_ n1_ n2_ n3_ n4_ n5_
         (try clear hb)
         (try clear hb2)
         (try clear hk)
         (try clear hi)
         refine hK.out _ _ ⟨(bc_ BK401.1 0).trans rfl, (bc_ BK401.1 1).trans rfl, (bc_ BK401.1 2).trans rfl, (bc_ BK401.1 3).trans rfl, (bc_ BK401.1 4).trans rfl⟩ (fun hHeld => ?_)
         clear hK K
         refine norm_ (a' := ?_) ?_ ?_
         rotate_left
         ·show Act.put _ (some 68) _ = _
          simp only [Act.put, List.setIfInBounds_toArray, List.set_cons_zero, List.set_cons_succ, i64_w, i32_w]
          rfl
         refine one_ (i := 20) (N := some 70) #[true, true, true, true, true, true, true, true, true, true, true, true, true, true, true, true, true, true, true, true, true, false, false, false] rfl rfl (one_of HT_.1 (by kernel_rfl)) (by decide) (fun K hK => ?_)
         refine goes_ Tryd.func12 (by kernel_rfl) rfl #[.agg #[.int .i64 t396, .string t397, .string t398, .bool t399, .string t400]] (by rfl) rfl rfl (by (try simp only [List.map_toArray, List.map_cons, List.map_nil]); first | done | rfl | (simp only [List.length_drop, List.length_take]; rfl)) ?_
         with_reducible refine (spec_PieceText.calls k1 t396 t397 t398 t399 t400 t405 _ A24.1).mono ?_
         rintro e w39 ⟨rfl, hb⟩
         refine ⟨_, rfl, ?_⟩
         have n0_ := Aside0.mk (Kd.R_below (by (with_reducible repeat (first | apply rA_ | apply rN_ | apply rD_)); exact HO_3.1) hb)
         have n1_ := Aside0.mk (Kd.R_below (by (with_reducible repeat (first | apply rA_ | apply rN_ | apply rD_)); exact HO386.1) hb)
         have n2_ := Aside0.mk (Kd.R_below (by (with_reducible repeat (first | apply rA_ | apply rN_ | apply rD_)); exact HO391.1) hb)
         have n3_ := Aside0.mk (Kd.R_below (by (with_reducible repeat (first | apply rA_ | apply rN_ | apply rD_)); exact HO395.1) hb)
         have n4_ := Aside0.mk (bB_ (g := gb401) (o := .cells #[.int .i64 t396, .string t397, .string t398, .bool t399, .string t400] 28 (0, 0)) (by (with_reducible repeat (first | refine bN_ ?_ _ | refine bD_ ?_ | refine bA_ ?_ _)); exact BK401.1) hb)
         have n5_ := Aside0.mk (below_step (by repeat (first | (with_reducible first | exact HB.1 | apply aB_ | apply pN_ | apply dB_ | refine sB_ ?_ GE401.1) | exact HB.1)) hb)
         clear HO_3 HO386 HO391 HO395 BK401 HB
         have HO_3 := n0_
         have HO386 := n1_
         have HO391 := n2_
         have HO395 := n3_
         have BK401 := n4_
         have HB := n5_
         clear n0_ n1_ n2_ n3_ n4_ n5_
         (try clear hb)
         (try clear hb2)
         (try clear hk)
         (try clear hi)
         refine hK.out _ _ ⟨(bc_ BK401.1 0).trans rfl, (bc_ BK401.1 1).trans rfl, (bc_ BK401.1 2).trans rfl, (bc_ BK401.1 3).trans rfl, (bc_ BK401.1 4).trans rfl⟩ (fun hHeld => ?_)
         clear hK K
         refine norm_ (a' := ?_) ?_ ?_
         rotate_left
         ·show Act.put _ (some 70) _ = _
          simp only [Act.put, List.setIfInBounds_toArray, List.set_cons_zero, List.set_cons_succ, i64_w, i32_w]
          rfl
         refine pure_ (i := 21) (N := some 71) (v := ?_) (a' := ?_) #[true, true, true, true, true, true, true, true, true, true, true, true, true, true, true, true, true, true, true, true, true, true, false, false] rfl rfl (any_of HT_.1 (by kernel_rfl)) (fun _ _ _ h => h) (Or.inl ⟨by rfl, ?_⟩) ?_ ?_
         rotate_left
         ·intro w'
          go_simp
          with_reducible rfl
         rotate_left
         ·simp only [Act.put, List.setIfInBounds_toArray, List.set_cons_zero, List.set_cons_succ, i64_w, i32_w]
          rfl
         refine pure_ (i := 22) (N := some 72) (v := ?_) (a' := ?_) #[true, true, true, true, true, true, true, true, true, true, true, true, true, true, true, true, true, true, true, true, true, true, true, false] rfl rfl (any_of HT_.1 (by kernel_rfl)) (fun _ _ _ h => h) (Or.inl ⟨by rfl, ?_⟩) ?_ ?_
         rotate_left
         ·intro w'
          go_simp
          with_reducible rfl
         rotate_left
         ·simp only [Act.put, List.setIfInBounds_toArray, List.set_cons_zero, List.set_cons_succ, i64_w, i32_w]
          rfl
         refine pure_ (i := 23) (N := some 2) (v := ?_) (a' := ?_) #[true, true, true, true, true, true, true, true, true, true, true, true, true, true, true, true, true, true, true, true, true, true, true, true] rfl rfl (any_of HT_.1 (by kernel_rfl)) (fun _ _ _ h => h) (Or.inl ⟨by rfl, ?_⟩) ?_ ?_
         rotate_left
         ·intro w'
          go_simp
          with_reducible rfl
         rotate_left
         ·simp only [Act.put, List.setIfInBounds_toArray, List.set_cons_zero, List.set_cons_succ, i64_w, i32_w]
          rfl
         refine done_ (done_of HT_.1 (by kernel_rfl)) ?_
         try go_wp2
         go_ret
         exact ⟨by first | rfl | (rw [hr_]) | (simp only [hr_]) | (simp [errW_none, errW_some] <;> rfl) | (simp [*, errW_none, errW_some] <;> rfl), by repeat (first | (with_reducible first | exact HB.1 | apply aB_ | apply pN_ | apply dB_ | refine sB_ ?_ GE401.1) | exact HB.1)⟩
        ·replace c22 := Bool.eq_false_iff.mpr c22
         subst c22
         have H1 : (some false) = some true := by rw [if_neg (show ¬ (false = true) by decide)] at H; exact H
         clear H
         have H := H1
         clear H1
         cases H
       ·rw [if_neg c20] at H
        have c20b0 : (t389 == t393) = false := by simpa using c20
        (try (have c20b1 : decide (t389 = t393) = false := by simpa using c20))
        (try (have c20b2 : (t389 == t393) = false := by simpa using c20))
        (try (have c20b3 : ¬ (t389 = t393) := by simpa using c20))
        clear c20
        cases H
      ·replace c19 := Bool.eq_false_iff.mpr c19
       subst c19
       have H1 : (some false) = some true := by rw [if_neg (show ¬ (false = true) by decide)] at H; exact H
       clear H
       have H := H1
       clear H1
       cases H
     ·replace c17 := Bool.eq_false_iff.mpr c17
      subst c17
      have H1 : (some false) = some true := by rw [if_neg (show ¬ (false = true) by decide)] at H; exact H
      clear H
      have H := H1
      clear H1
      cases H


/-- THE ONE PURE STATEMENT of laws_FnPieces: yours. -/
def laws_FnPieces.Pure : Prop := ∀ (l0 : List Int), (l0.length ≤ 9223372036854775807 ∧ ∀ x ∈ l0, (Lit.int .u8 x).wf = true) → l0.length ≤ 140737488351232 → ∃ k, laws_FnPieces.f k l0 = some true
theorem laws_FnPieces.walk (P : laws_FnPieces.Pure) (A0 : Option Addr) (c0 : Nat) (l0 : List Int) (w : World) (hr0 : Kd.C (Kd.int .u8) w A0 l0.length l0) (hc0 : l0.length ≤ c0) (w0 : (l0.length ≤ 9223372036854775807 ∧ ∀ x ∈ l0, (Lit.int .u8 x).wf = true)) (w1 : l0.length ≤ 140737488351232) (hG : GOK w) :
  Calls Tryd.prog 3 #[.slice A0 l0.length c0] w fun e w' => e = .returned (.bool true) ∧ Below w.heap.size w w' := by
 obtain ⟨k, h⟩ := P l0 w0 w1
 refine (laws_FnPieces.calls k _ _ l0 w hr0 hc0 h hG).mono ?_
 rintro e w' ⟨rfl, hd⟩
 exact ⟨rfl, hd⟩

end Go.Proofs.YtfncjddolbghlaaDoor.GFnPieces
