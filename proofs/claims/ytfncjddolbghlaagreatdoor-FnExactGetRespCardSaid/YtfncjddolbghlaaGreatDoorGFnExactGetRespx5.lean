-- by gprint.py (this session's program over the kit's print.py) (a twelfth state) out of the translation. Not trusted: Lean checks it.
import Derived.Test.YtfncjddolbghlaaGreatDoorGFnExactGetRespx0
import Derived.Test.YtfncjddolbghlaaGreatDoorGFnExactGetRespx1
import Derived.Test.YtfncjddolbghlaaGreatDoorGFnExactGetRespx2
import Derived.Test.YtfncjddolbghlaaGreatDoorGFnExactGetRespx4
namespace Go.Proofs.YtfncjddolbghlaaGreatDoor.GFnExactGetResp
open Go.RowKit Go.Proofs.YtfncjddolbghlaaGreatDoorW.PrintWords Go.Proofs.YtfncjddolbghlaaGreatDoorW.PrintLast Go.Proofs.YtfncjddolbghlaaGreatDoorW.PrintMore
attribute [local go_sem] max2_int min2_int max_two min_two max_three min_three max_four min_four   -- for this text's walks alone
set_option linter.unusedVariables false
set_option linter.unusedSimpArgs false
set_option maxRecDepth 100000
set_option maxHeartbeats 8000000

mutual
def spec_GetResp.j0 : Nat → List Int → Int → List ByteArray → Bool → Int → ByteArray → Option (Int × (List (S88)) × ByteArray × Int × Bool)
 | 0, _, _, _, _, _, _ => none
 | k + 1, x0, x5, x6, x40, x159000, x159002 => if x40 = true then (some (0, ([] : List (S88)), (⟨#[]⟩ : ByteArray), 0, false)) else (if 0 < (x6.length : Int) then (if 9 ≤ ((rdOf ByteArray.empty x6 0).size : Int) then ((spec_ParseNum.f k ((rdOf ByteArray.empty x6 0).extract 9 (rdOf ByteArray.empty x6 0).size) 599).bind fun bt162 => (spec_GetResp.l0 k x0 x5 x6 (-1) 1 bt162.1 ([] : List (S88)) x159002)) else (none)) else (none))
def spec_GetResp.l0 : Nat → List Int → Int → List ByteArray → Int → Int → Int → List (S88) → ByteArray → Option (Int × (List (S88)) × ByteArray × Int × Bool)
 | 0, _, _, _, _, _, _, _, _ => none
 | k + 1, x0, x5, x6, x8, x9, x159000, x159001, x159002 => if x9 < (x6.length : Int) then (if 0 ≤ x9 then ((spec_l5Head.f k (rdOf ByteArray.empty x6 x9)).bind fun bt165 => (if bt165.2.2 = true then (if x9 = (wrap64 ((x6.length : Int) - 1)) then (spec_GetResp.j2 k x0 x5 x6 x8 x9 bt165.2.2 (bt165.1.toList == ([99, 111, 110, 116, 101, 110, 116, 45, 108, 101, 110, 103, 116, 104] : List UInt8)) x159000 x159001 x159002 bt165.1 bt165.2.1) else (spec_GetResp.j2 k x0 x5 x6 x8 x9 bt165.2.2 false x159000 x159001 x159002 bt165.1 bt165.2.1)) else (some (0, ([] : List (S88)), (⟨#[]⟩ : ByteArray), 0, false)))) else (none)) else (if x8 < 0 then (spec_GetResp.j3 k x0 x5 x8 true x159000 x159001 x159002) else (spec_GetResp.j3 k x0 x5 x8 (decide (x8 > (wrap64 ((x0.length : Int) - x5)))) x159000 x159001 x159002))
def spec_GetResp.j2 : Nat → List Int → Int → List ByteArray → Int → Int → Bool → Bool → Int → List (S88) → ByteArray → ByteArray → ByteArray → Option (Int × (List (S88)) × ByteArray × Int × Bool)
 | 0, _, _, _, _, _, _, _, _, _, _, _, _ => none
 | k + 1, x0, x5, x6, x8, x9, x11, x77, x159000, x159001, x159002, x169000, x169001 => if x77 = true then ((spec_ParseNum.f k x169001 400).bind fun bt169 => (if bt169.2 = true then (spec_GetResp.l0 k x0 x5 x6 bt169.1 (wrap64 (x9 + 1)) x159000 x159001 x159002) else (some (0, ([] : List (S88)), (⟨#[]⟩ : ByteArray), 0, false)))) else (if x159001.length < 4398046511104 then (if x11 = true then (spec_GetResp.l0 k x0 x5 x6 x8 (wrap64 (x9 + 1)) x159000 (x159001 ++ [(⟨x169000, x169001⟩ : S88)]) x159002) else (some (0, ([] : List (S88)), (⟨#[]⟩ : ByteArray), 0, false))) else (none))
def spec_GetResp.j3 : Nat → List Int → Int → Int → Bool → Int → List (S88) → ByteArray → Option (Int × (List (S88)) × ByteArray × Int × Bool)
 | 0, _, _, _, _, _, _, _ => none
 | k + 1, x0, x5, x8, x102, x159000, x159001, x159002 => if x102 = true then (some (0, ([] : List (S88)), (⟨#[]⟩ : ByteArray), 0, false)) else (if 0 ≤ x5 then (if x5 ≤ (wrap64 (x5 + x8)) then (if (wrap64 (x5 + x8)) ≤ (x0.length : Int) then ((spec_PutResp.f k x159000 x159001 (strOfNums ((x0.take ((wrap64 (x5 + x8)) : Int).toNat).drop (x5 : Int).toNat))).bind fun t175 => (if 0 ≤ (wrap64 (x5 + x8)) then (if (strOfNums t175).toList = (strOfNums (x0.take ((wrap64 (x5 + x8)) : Int).toNat)).toList then ((spec_PutResp.f k x159000 x159001 (strOfNums ((x0.take ((wrap64 (x5 + x8)) : Int).toNat).drop (x5 : Int).toNat))).bind fun t179 => (if (t179.length : Int) = 0 then (some (0, ([] : List (S88)), (⟨#[]⟩ : ByteArray), 0, false)) else (some (x159000, x159001, strOfNums ((x0.take ((wrap64 (x5 + x8)) : Int).toNat).drop (x5 : Int).toNat), wrap64 (x5 + x8), true)))) else (some (0, ([] : List (S88)), (⟨#[]⟩ : ByteArray), 0, false))) else (none))) else (none)) else (none)) else (none))
end
def spec_GetResp.f (k : Nat) (l0 : List Int) : Option (Int × (List (S88)) × ByteArray × Int × Bool) := (spec_l5End.f k l0).bind fun t153 => (if t153 < 0 then (some (0, ([] : List (S88)), (⟨#[]⟩ : ByteArray), 0, false)) else (if 0 ≤ (wrap64 (t153 - 4)) then (if (wrap64 (t153 - 4)) ≤ (l0.length : Int) then ((spec_l3Lines.f k (strOfNums (l0.take ((wrap64 (t153 - 4)) : Int).toNat))).bind fun t155 => (if (t155.length : Int) < 2 then (spec_GetResp.j0 k l0 t153 t155 true 0 (⟨#[]⟩ : ByteArray)) else (if 0 < (t155.length : Int) then (if ((rdOf ByteArray.empty t155 0).size : Int) = 12 then (if 0 ≤ 9 then (if 9 ≤ ((rdOf ByteArray.empty t155 0).size : Int) then (spec_GetResp.j0 k l0 t153 t155 (((rdOf ByteArray.empty t155 0).extract 0 9).toList != ([72, 84, 84, 80, 47, 49, 46, 49, 32] : List UInt8)) 0 (⟨#[]⟩ : ByteArray)) else (none)) else (none)) else (spec_GetResp.j0 k l0 t153 t155 true 0 (⟨#[]⟩ : ByteArray))) else (none)))) else (none)) else (none)))

def spec_GetResp.T24 : Bool × List (List Nat × List Nat) := (true, [([], []), ([0], [0]), ([1], [1]), ([], []), ([], []), ([], []), ([4, 5], [4, 5]), ([3, 6], [3, 6]), ([7], [7]), ([2, 8], [2, 8]), ([9, 1], [9]), ([10], [10]), ([11, 10, 10], [10, 11]), ([12, 10], [10, 12]), ([13, 10], [10, 13]), ([10, 14], [10, 14])])
def spec_GetResp.B24 : List Nat := [0, 1, 3, 0, 0, 0, 48, 120, 248, 511, 1023, 2047, 4095, 8191, 16383, 32767]
theorem spec_GetResp.tab24 : rtab .any (opsOf Tryz.f12 24) = spec_GetResp.T24 := by kernel_rfl
theorem spec_GetResp.bits24 : waitsOk spec_GetResp.T24.2 spec_GetResp.B24 = true := by kernel_rfl
theorem spec_GetResp.calls (k : Nat) (A0 : Option Addr) (c0 : Nat) (l0 : List Int) (r1 : Int) (r2 : List (S88)) (r3 : ByteArray) (r4 : Int) (r5 : Bool) (w : World) (hr0 : Kd.C (Kd.int .u8) w A0 l0.length l0) (hc0 : l0.length ≤ c0) (h : spec_GetResp.f k l0 = some (r1, r2, r3, r4, r5)) :
  Calls Tryz.prog 12 #[.slice A0 l0.length c0] w fun e w' => ∃ v1_ : Value, e = .returned (.tuple #[.agg #[.int .i64 r1, v1_, .string r3], .int .i64 r4, .bool r5]) ∧ Kd.R k88 88 w' w.heap.size (fun _ => True) v1_ r2 ∧ Below w.heap.size w w' := by
 have hu25 := Tryz.underlying25
 have hu88 := Tryz.underlying88
 have HR0 := Aside0.mk hr0
 have HC0 := Aside0.mk hc0
 clear hr0 hc0
 have HB := Aside0.mk (Below.refl w.heap.size w)
 have H : ((spec_l5End.f k l0).bind fun t153 => (if t153 < 0 then (some (0, ([] : List (S88)), (⟨#[]⟩ : ByteArray), 0, false)) else (if 0 ≤ (wrap64 (t153 - 4)) then (if (wrap64 (t153 - 4)) ≤ (l0.length : Int) then ((spec_l3Lines.f k (strOfNums (l0.take ((wrap64 (t153 - 4)) : Int).toNat))).bind fun t155 => (if (t155.length : Int) < 2 then (spec_GetResp.j0 k l0 t153 t155 true 0 (⟨#[]⟩ : ByteArray)) else (if 0 < (t155.length : Int) then (if ((rdOf ByteArray.empty t155 0).size : Int) = 12 then (if 0 ≤ 9 then (if 9 ≤ ((rdOf ByteArray.empty t155 0).size : Int) then (spec_GetResp.j0 k l0 t153 t155 (((rdOf ByteArray.empty t155 0).extract 0 9).toList != ([72, 84, 84, 80, 47, 49, 46, 49, 32] : List UInt8)) 0 (⟨#[]⟩ : ByteArray)) else (none)) else (none)) else (spec_GetResp.j0 k l0 t153 t155 true 0 (⟨#[]⟩ : ByteArray))) else (none)))) else (none)) else (none)))) = some (r1, r2, r3, r4, r5) := h
 clear h
 replace H := Option.bind_eq_some_iff.mp H
 obtain ⟨t153, A20, H⟩ := H
 replace H : (if t153 < 0 then (some (0, ([] : List (S88)), (⟨#[]⟩ : ByteArray), 0, false)) else (if 0 ≤ (wrap64 (t153 - 4)) then (if (wrap64 (t153 - 4)) ≤ (l0.length : Int) then ((spec_l3Lines.f k (strOfNums (l0.take ((wrap64 (t153 - 4)) : Int).toNat))).bind fun t155 => (if (t155.length : Int) < 2 then (spec_GetResp.j0 k l0 t153 t155 true 0 (⟨#[]⟩ : ByteArray)) else (if 0 < (t155.length : Int) then (if ((rdOf ByteArray.empty t155 0).size : Int) = 12 then (if 0 ≤ 9 then (if 9 ≤ ((rdOf ByteArray.empty t155 0).size : Int) then (spec_GetResp.j0 k l0 t153 t155 (((rdOf ByteArray.empty t155 0).extract 0 9).toList != ([72, 84, 84, 80, 47, 49, 46, 49, 32] : List UInt8)) 0 (⟨#[]⟩ : ByteArray)) else (none)) else (none)) else (spec_GetResp.j0 k l0 t153 t155 true 0 (⟨#[]⟩ : ByteArray))) else (none)))) else (none)) else (none))) = some (r1, r2, r3, r4, r5) := H
 have A2 := Aside0.mk A20
 clear A20
 by_cases c3 : t153 < 0
 ·rw [if_pos c3] at H
  have c3b0 : decide (t153 < 0) = true := decide_eq_true c3
  clear c3
  simp only [Option.some.injEq, Prod.mk.injEq] at H
  obtain ⟨rfl, rfl, rfl, rfl, rfl⟩ := H
  go_enter Tryz.func12, Tryz.ntmps12
  go_wp2_with (first | ((with_reducible refine gate_dst (N := 2) rfl ?_); (try (refine gate_guard (by rfl) ?_; dsimp only)); refine box_event ?hg (N := 2) ?hd (cs := #[.int .i64 0, .slice none 0 0, .string (⟨#[]⟩ : ByteArray)]) (t := 25) ?hr ?_; (case hd => rfl); (case hg => rfl); (case hr => first | (go_simp; done) | (go_simp; rfl)); intro gb152 hg w4 hbox hb; have n0_ := Aside0.mk (below_step (by repeat (first | (with_reducible first | exact HB.1 | apply aB_ | apply pN_ | apply dB_) | exact HB.1)) hb); have n1_ := Aside0.mk (hbox); have n2_ := Aside0.mk ((by rw [hg]; exact (below_size (by repeat (first | (with_reducible first | exact HB.1 | apply aB_ | apply pN_ | apply dB_) | exact HB.1))) : w.heap.size ≤ gb152)); have n3_ := Aside0.mk ((by rw [hg]; exact (below_size (by repeat (first | (with_reducible first | exact HB.1 | apply aB_ | apply pN_ | apply dB_) | exact HB.1))) : w.heap.size ≤ gb152)); clear HB; have HB := n0_; have BK152 := n1_; have GW152 := n2_; have GE152 := n3_; clear n0_ n1_ n2_ n3_; clear hb hbox hg) | ((with_reducible refine gate_callee (f := 71) rfl ?_); refine goesL_ (some 13) rfl rfl Tryz.func71 (by kernel_rfl) rfl #[.slice A0 l0.length c0] rfl (by (try simp only [List.map_toArray, List.map_cons, List.map_nil]); first | done | rfl | (simp only [List.length_drop, List.length_take]; rfl)) ?_; (with_reducible refine (spec_l5End.calls k _ _ l0 t153 _ ?side1 ?side2 A2.1).mono ?_); (case side1 => repeat (first | exact (Kd.C_below HR0.1 HB.1) | (with_reducible refine Kd.C_alloc ?_ _) | (with_reducible refine Kd.C_drewN ?_ _) | (with_reducible refine Kd.C_drew ?_))); (case side2 => exact HC0.1); rintro e w' ⟨rfl, ⟨nd, rfl⟩⟩; refine ⟨_, rfl, ?_⟩; (try (rw [drewN_self w4]; generalize hq_ : World.drewN w4 _ = w4; have n0_ : Aside0 (w4.heap[gb152]? = some (.cells #[.int .i64 0, .slice none 0 0, .string (⟨#[]⟩ : ByteArray)] 25 (0, 0))) := ⟨by rw [← hq_]; exact (by (with_reducible repeat (first | refine bN_ ?_ _ | refine bD_ ?_ | refine bA_ ?_ _)); exact BK152.1)⟩; have n1_ : Aside0 (Below w.heap.size w w4) := ⟨by rw [← hq_]; exact (by repeat (first | (with_reducible first | exact HB.1 | apply aB_ | apply pN_ | apply dB_ | refine sB_ ?_ GE152.1) | exact HB.1))⟩; clear BK152 HB hq_; have BK152 := n0_; have HB := n1_; clear n0_ n1_)); have hcz5_0 : w4.cell? ⟨gb152, 0, none⟩ = some (.int .i64 0) := (bc_ BK152.1 0).trans rfl; have hcz5_1 : w4.cell? ⟨gb152, 1, none⟩ = some (.slice none 0 0) := (bc_ BK152.1 1).trans rfl; have hcz5_2 : w4.cell? ⟨gb152, 2, none⟩ = some (.string (⟨#[]⟩ : ByteArray)) := (bc_ BK152.1 2).trans rfl; have hfz5_0 := bF_ BK152.1 0; have hfz5_1 := bF_ BK152.1 1; have hfz5_2 := bF_ BK152.1 2))
  refine bodyPost_ret (results_ctt rfl _ _ gb152 25 #[.int .i64 0, .slice none 0 0, .string (⟨#[]⟩ : ByteArray)] (0, 0) _ rfl (by (with_reducible repeat (first | refine bN_ ?_ _ | refine bD_ ?_ | refine bA_ ?_ _)); refine blk_put (cs := #[.int .i64 0, .slice none 0 0, .string (⟨#[]⟩ : ByteArray)]) ?_ 2 _ rfl; (with_reducible repeat (first | refine bN_ ?_ _ | refine bD_ ?_ | refine bA_ ?_ _)); refine blk_put (cs := #[.int .i64 0, .slice none 0 0, .string (⟨#[]⟩ : ByteArray)]) ?_ 1 _ rfl; (with_reducible repeat (first | refine bN_ ?_ _ | refine bD_ ?_ | refine bA_ ?_ _)); refine blk_put (cs := #[.int .i64 0, .slice none 0 0, .string (⟨#[]⟩ : ByteArray)]) ?_ 0 _ rfl; (with_reducible repeat (first | refine bN_ ?_ _ | refine bD_ ?_ | refine bA_ ?_ _)); exact BK152.1) Tryz.underlying25 rfl (by kernel_rfl)) rfl ?_
  exact ⟨_, by first | rfl | (simp [errW_none, errW_some] <;> rfl) | (simp [*, errW_none, errW_some] <;> rfl), by first | exact Kd.R_nil _ _ _ _ _ | exact Kd.N_nil _ _ _ _ _ | exact Kd.V_nil _ _ _ _ _ | exact Kd.Q_nil _ _ _ _ _ | exact Kd.S_nil _ _ _ _ _, by repeat (first | (with_reducible first | exact HB.1 | apply aB_ | apply pN_ | apply dB_ | refine sB_ ?_ GE152.1) | exact HB.1)⟩
 ·rw [if_neg c3] at H
  have c3b0 : decide (t153 < 0) = false := decide_eq_false c3
  clear c3
  obtain ⟨ji6, hji6⟩ : ∃ j_ : Int, (wrap64 (t153 - 4)) = j_ := ⟨_, rfl⟩
  replace H : (if 0 ≤ (ji6) then (if (ji6) ≤ (l0.length : Int) then ((spec_l3Lines.f k (strOfNums (l0.take ((ji6) : Int).toNat))).bind fun t155 => (if (t155.length : Int) < 2 then (spec_GetResp.j0 k l0 t153 t155 true 0 (⟨#[]⟩ : ByteArray)) else (if 0 < (t155.length : Int) then (if ((rdOf ByteArray.empty t155 0).size : Int) = 12 then (if 0 ≤ 9 then (if 9 ≤ ((rdOf ByteArray.empty t155 0).size : Int) then (spec_GetResp.j0 k l0 t153 t155 (((rdOf ByteArray.empty t155 0).extract 0 9).toList != ([72, 84, 84, 80, 47, 49, 46, 49, 32] : List UInt8)) 0 (⟨#[]⟩ : ByteArray)) else (none)) else (none)) else (spec_GetResp.j0 k l0 t153 t155 true 0 (⟨#[]⟩ : ByteArray))) else (none)))) else (none)) else (none)) = some (r1, r2, r3, r4, r5) := by first | (rw [hji6] at H; exact H) | (simp only [hji6] at H ⊢; exact H)
  (try rw [hji6] at A2)
  have hji6w : (IntKind.i64.wrap (t153 - 4)) = ji6 := (i64_w _).trans hji6
  by_cases c7 : 0 ≤ (ji6)
  ·rw [if_pos c7] at H
   have c7b0 := eq_true c7
   have c7b1 : decide (0 ≤ (ji6)) = true := decide_eq_true c7
   clear c7
   by_cases c8 : (ji6) ≤ (l0.length : Int)
   ·rw [if_pos c8] at H
    have c8b0 := eq_true c8
    have c8b1 : decide ((ji6) ≤ (l0.length : Int)) = true := decide_eq_true c8
    clear c8
    replace H := Option.bind_eq_some_iff.mp H
    obtain ⟨t155, A90, H⟩ := H
    replace H : (if (t155.length : Int) < 2 then (spec_GetResp.j0 k l0 t153 t155 true 0 (⟨#[]⟩ : ByteArray)) else (if 0 < (t155.length : Int) then (if ((rdOf ByteArray.empty t155 0).size : Int) = 12 then (if 0 ≤ 9 then (if 9 ≤ ((rdOf ByteArray.empty t155 0).size : Int) then (spec_GetResp.j0 k l0 t153 t155 (((rdOf ByteArray.empty t155 0).extract 0 9).toList != ([72, 84, 84, 80, 47, 49, 46, 49, 32] : List UInt8)) 0 (⟨#[]⟩ : ByteArray)) else (none)) else (none)) else (spec_GetResp.j0 k l0 t153 t155 true 0 (⟨#[]⟩ : ByteArray))) else (none))) = some (r1, r2, r3, r4, r5) := H
    have A9 := Aside0.mk A90
    clear A90
    have HC10 := Aside0.mk H
    clear H
    go_enter Tryz.func12, Tryz.ntmps12
    go_upto_region 6 with (first | ((with_reducible refine gate_dst (N := 2) rfl ?_); (try (refine gate_guard (by rfl) ?_; dsimp only)); refine box_event ?hg (N := 2) ?hd (cs := #[.int .i64 0, .slice none 0 0, .string (⟨#[]⟩ : ByteArray)]) (t := 25) ?hr ?_; (case hd => rfl); (case hg => rfl); (case hr => first | (go_simp; done) | (go_simp; rfl)); intro gb152 hg w11 hbox hb; have n0_ := Aside0.mk (below_step (by repeat (first | (with_reducible first | exact HB.1 | apply aB_ | apply pN_ | apply dB_) | exact HB.1)) hb); have n1_ := Aside0.mk (hbox); have n2_ := Aside0.mk ((by rw [hg]; exact (below_size (by repeat (first | (with_reducible first | exact HB.1 | apply aB_ | apply pN_ | apply dB_) | exact HB.1))) : w.heap.size ≤ gb152)); have n3_ := Aside0.mk ((by rw [hg]; exact (below_size (by repeat (first | (with_reducible first | exact HB.1 | apply aB_ | apply pN_ | apply dB_) | exact HB.1))) : w.heap.size ≤ gb152)); clear HB; have HB := n0_; have BK152 := n1_; have GW152 := n2_; have GE152 := n3_; clear n0_ n1_ n2_ n3_; clear hb hbox hg) | ((with_reducible refine gate_callee (f := 71) rfl ?_); refine goesL_ (some 13) rfl rfl Tryz.func71 (by kernel_rfl) rfl #[.slice A0 l0.length c0] rfl (by (try simp only [List.map_toArray, List.map_cons, List.map_nil]); first | done | rfl | (simp only [List.length_drop, List.length_take]; rfl)) ?_; (with_reducible refine (spec_l5End.calls k _ _ l0 t153 _ ?side1 ?side2 A2.1).mono ?_); (case side1 => repeat (first | exact (Kd.C_below HR0.1 HB.1) | (with_reducible refine Kd.C_alloc ?_ _) | (with_reducible refine Kd.C_drewN ?_ _) | (with_reducible refine Kd.C_drew ?_))); (case side2 => exact HC0.1); rintro e w' ⟨rfl, ⟨nd, rfl⟩⟩; refine ⟨_, rfl, ?_⟩; (try (rw [drewN_self w11]; generalize hq_ : World.drewN w11 _ = w11; have n0_ : Aside0 (w11.heap[gb152]? = some (.cells #[.int .i64 0, .slice none 0 0, .string (⟨#[]⟩ : ByteArray)] 25 (0, 0))) := ⟨by rw [← hq_]; exact (by (with_reducible repeat (first | refine bN_ ?_ _ | refine bD_ ?_ | refine bA_ ?_ _)); exact BK152.1)⟩; have n1_ : Aside0 (Below w.heap.size w w11) := ⟨by rw [← hq_]; exact (by repeat (first | (with_reducible first | exact HB.1 | apply aB_ | apply pN_ | apply dB_ | refine sB_ ?_ GE152.1) | exact HB.1))⟩; clear BK152 HB hq_; have BK152 := n0_; have HB := n1_; clear n0_ n1_)); obtain ⟨i012, hi012, _, hsz12, _⟩ := info_parts info5; obtain ⟨hcut12, hA12, hC12⟩ := print_take_of (P := Tryz.prog) (Value.int .u8) 0 22 5 .i64 Tryz.underlying22 hi012 hsz12 A0 c0 l0 (ji6) (of_decide_eq_true (by first | (with_reducible assumption) | assumption)) (of_decide_eq_true (by first | (with_reducible assumption) | assumption)) HC0.1; have HR154 := Aside0.mk (Kd.C_of_reads (h1 := fun _ => rfl) (hA12 _ (Kd.reads_of_C HR0.1))); have HC154 := Aside0.mk hC12; clear hA12 hC12 hi012 hsz12; have hq_ := (Kd.C_below HR154.1 HB.1); rw [show (l0.take ((ji6) : Int).toNat).length = (ji6).toNat from (by rw [List.length_take]; have h_ : ((ji6) : Int) ≤ (l0.length : Int) := of_decide_eq_true (by first | (with_reducible assumption) | assumption); omega)] at hq_; have hcv13 := Kd.C_string (P := Tryz.prog) (A := A0) (c := c0) Tryz.underlying22 Tryz.underlying5 Tryz.underlying9 hq_; have hcv14 := fun nq_ : Nat => Kd.C_string (P := Tryz.prog) (A := A0) (c := c0) Tryz.underlying22 Tryz.underlying5 Tryz.underlying9 (Kd.C_drewN hq_ nq_); clear hq_) | ((with_reducible refine gate_callee (f := 72) rfl ?_); refine goesL_ (some 22) rfl rfl Tryz.func72 (by kernel_rfl) rfl #[.string (strOfNums (l0.take ((ji6) : Int).toNat))] rfl (by (try simp only [List.map_toArray, List.map_cons, List.map_nil]); first | done | (simp only [hji6]; rfl) | rfl | (simp only [List.length_drop, List.length_take]; rfl)) ?_; (with_reducible refine (spec_l3Lines.calls k (strOfNums (l0.take ((ji6) : Int).toNat)) t155 _ A9.1).mono ?_); rintro e w15 ⟨v156, rfl, ho0, hb⟩; refine ⟨_, rfl, ?_⟩; have n0_ := Aside0.mk (Kd.R_lower ho0 (below_size (by repeat (first | (with_reducible first | exact HB.1 | apply aB_ | apply pN_ | apply dB_ | refine sB_ ?_ GE152.1) | exact HB.1)))); have n1_ := Aside0.mk (bB_ (g := gb152) (o := .cells #[.int .i64 0, .slice none 0 0, .string (⟨#[]⟩ : ByteArray)] 25 (0, 0)) (by (with_reducible repeat (first | refine bN_ ?_ _ | refine bD_ ?_ | refine bA_ ?_ _)); exact BK152.1) hb); have n2_ := Aside0.mk (below_step (by repeat (first | (with_reducible first | exact HB.1 | apply aB_ | apply pN_ | apply dB_ | refine sB_ ?_ GE152.1) | exact HB.1)) hb); clear BK152 HB; have HO157 := n0_; have BK152 := n1_; have HB := n2_; clear n0_ n1_ n2_; (try clear hb); (try clear hb2); (try clear hk); (try clear hi); (try clear ho0)) | ((with_reducible refine gate_dst (N := 7) rfl ?_); (try (refine gate_guard (by rfl) ?_; dsimp only)); refine box_event ?hg (N := 7) ?hd (cs := #[.int .i64 0, .slice none 0 0, .string (⟨#[]⟩ : ByteArray)]) (t := 25) ?hr ?_; (case hd => rfl); (case hg => rfl); (case hr => first | (go_simp; done) | (go_simp; rfl)); intro gb158 hg w16 hbox hb; have n0_ := Aside0.mk (Kd.R_below (by (with_reducible repeat (first | apply rA_ | apply rN_ | apply rD_)); exact HO157.1) hb); have n1_ := Aside0.mk (bB_ (g := gb152) (o := .cells #[.int .i64 0, .slice none 0 0, .string (⟨#[]⟩ : ByteArray)] 25 (0, 0)) (by (with_reducible repeat (first | refine bN_ ?_ _ | refine bD_ ?_ | refine bA_ ?_ _)); exact BK152.1) hb); have n2_ := Aside0.mk (below_step (by repeat (first | (with_reducible first | exact HB.1 | apply aB_ | apply pN_ | apply dB_ | refine sB_ ?_ GE152.1) | exact HB.1)) hb); have n3_ := Aside0.mk (hbox); have n4_ := Aside0.mk ((by rw [hg]; exact (below_size (by repeat (first | (with_reducible first | exact HB.1 | apply aB_ | apply pN_ | apply dB_ | refine sB_ ?_ GE152.1) | exact HB.1))) : w.heap.size ≤ gb158)); have n5_ := Aside0.mk ((by rw [hg]; exact (below_size (by repeat (first | (with_reducible first | exact HB.1 | apply aB_ | apply pN_ | apply dB_ | refine sB_ ?_ GE152.1) | exact HB.1))) : w.heap.size ≤ gb158)); have n6_ := Aside0.mk ((by rw [hg]; exact Nat.ne_of_lt (blk_lt (g := gb152) (o := .cells #[.int .i64 0, .slice none 0 0, .string (⟨#[]⟩ : ByteArray)] 25 (0, 0)) (by (with_reducible repeat (first | refine bN_ ?_ _ | refine bD_ ?_ | refine bA_ ?_ _)); exact BK152.1)) : gb152 ≠ gb158)); have n7_ := Aside0.mk ((by rw [hg]; exact Nat.ne_of_gt (blk_lt (g := gb152) (o := .cells #[.int .i64 0, .slice none 0 0, .string (⟨#[]⟩ : ByteArray)] 25 (0, 0)) (by (with_reducible repeat (first | refine bN_ ?_ _ | refine bD_ ?_ | refine bA_ ?_ _)); exact BK152.1)) : gb158 ≠ gb152)); clear HO157 BK152 HB; have HO157 := n0_; have BK152 := n1_; have HB := n2_; have BK158 := n3_; have GW158 := n4_; have GE158 := n5_; have NB152_158 := n6_; have NB158_152 := n7_; clear n0_ n1_ n2_ n3_ n4_ n5_ n6_ n7_; clear hb hbox hg; have hnb17 := NB158_152.1; have hnc17 := NB152_158.1; have hcz18_0 : w16.cell? ⟨gb158, 0, none⟩ = some (.int .i64 0) := (bc_ BK158.1 0).trans rfl; have hcz18_1 : w16.cell? ⟨gb158, 1, none⟩ = some (.slice none 0 0) := (bc_ BK158.1 1).trans rfl; have hcz18_2 : w16.cell? ⟨gb158, 2, none⟩ = some (.string (⟨#[]⟩ : ByteArray)) := (bc_ BK158.1 2).trans rfl; have hfz18_0 := bF_ BK158.1 0; have hfz18_1 := bF_ BK158.1 1; have hfz18_2 := bF_ BK158.1 2))
    (try simp only [Act.put, List.setIfInBounds_toArray, List.set_cons_zero, List.set_cons_succ])
    go_cut [40] (fun v40 wc => ∃ (kq : Nat) (x40_9 : Bool), v40 = .bool x40_9 ∧ Aside0 (spec_GetResp.j0 kq l0 t153 t155 x40_9 0 (⟨#[]⟩ : ByteArray) = some (r1, r2, r3, r4, r5)) ∧ Aside0 (kq ≤ k) ∧ Aside0 (Kd.R Kd.string 9 wc w.heap.size (fun _ => True) v156 t155) ∧ Aside0 (wc.heap[gb152]? = some (.cells #[.int .i64 0, (.slice none 0 0), .string (⟨#[]⟩ : ByteArray)] 25 (0, 0))) ∧ Aside0 (wc.heap[gb158]? = some (.cells #[.int .i64 0, (.slice none 0 0), .string (⟨#[]⟩ : ByteArray)] 25 (0, 0))) ∧ Aside0 (Below w.heap.size w wc))
    case first =>
     have H := HC10.1
     clear HC10
     by_cases c19 : (t155.length : Int) < 2
     ·rw [if_pos c19] at H
      have c19b0 : decide ((t155.length : Int) < 2) = true := decide_eq_true c19
      have c19b1 : decide (t155.length < 2) = true := decide_eq_true (by omega)
      clear c19
      (first | rw [c19b0] | (simp only [i64_w, i32_w]; rw [c19b0]) | skip)
      have H' := Aside0.mk H
      clear H
      obtain ⟨Ao20, co20, eo20⟩ := Kd.R_slice HO157.1
      subst eo20
      go_wp2
      go_meet
      case rel => exact ⟨_, (true), (by first | rfl | (simp; done) | (simp [*]; done) | (simp [empty_ne, *]; done)), H', ⟨by first | omega | exact Nat.le_refl _⟩, ⟨by (with_reducible repeat (first | apply rA_ | apply rN_ | apply rD_)); exact Kd.R_mono (rF_ (p := ⟨gb158, 2, none⟩) (rF_ (p := ⟨gb158, 1, none⟩) (rF_ (p := ⟨gb158, 0, none⟩) (Kd.R_types HO157.1 BK158.1 (by decide)) (fun _ hk => hk.2) (.int .i64 0)) (fun _ hk => hk.2) (.slice none 0 0)) (fun _ hk => hk.2) (.string (⟨#[]⟩ : ByteArray))) (fun _ hk => trivial)⟩, ⟨by (with_reducible repeat (first | refine bN_ ?_ _ | refine bD_ ?_ | refine bA_ ?_ _)); refine blk_far ?_ NB152_158.1 _; (with_reducible repeat (first | refine bN_ ?_ _ | refine bD_ ?_ | refine bA_ ?_ _)); refine blk_far ?_ NB152_158.1 _; (with_reducible repeat (first | refine bN_ ?_ _ | refine bD_ ?_ | refine bA_ ?_ _)); refine blk_far ?_ NB152_158.1 _; (with_reducible repeat (first | refine bN_ ?_ _ | refine bD_ ?_ | refine bA_ ?_ _)); exact BK152.1⟩, ⟨by (with_reducible repeat (first | refine bN_ ?_ _ | refine bD_ ?_ | refine bA_ ?_ _)); refine blk_put (cs := #[.int .i64 0, .slice none 0 0, .string (⟨#[]⟩ : ByteArray)]) ?_ 2 _ rfl; (with_reducible repeat (first | refine bN_ ?_ _ | refine bD_ ?_ | refine bA_ ?_ _)); refine blk_put (cs := #[.int .i64 0, .slice none 0 0, .string (⟨#[]⟩ : ByteArray)]) ?_ 1 _ rfl; (with_reducible repeat (first | refine bN_ ?_ _ | refine bD_ ?_ | refine bA_ ?_ _)); refine blk_put (cs := #[.int .i64 0, .slice none 0 0, .string (⟨#[]⟩ : ByteArray)]) ?_ 0 _ rfl; (with_reducible repeat (first | refine bN_ ?_ _ | refine bD_ ?_ | refine bA_ ?_ _)); exact BK158.1⟩, ⟨by repeat (first | (with_reducible first | exact HB.1 | apply aB_ | apply pN_ | apply dB_ | refine sB_ ?_ GE152.1 | refine sB_ ?_ GE158.1) | exact HB.1)⟩⟩
     ·rw [if_neg c19] at H
      have c19b0 : decide ((t155.length : Int) < 2) = false := decide_eq_false c19
      have c19b1 : decide (t155.length < 2) = false := decide_eq_false (by omega)
      clear c19
      (first | rw [c19b0] | (simp only [i64_w, i32_w]; rw [c19b0]) | skip)
      by_cases c21 : 0 < (t155.length : Int)
      ·rw [if_pos c21] at H
       have c21b0 : decide (0 < (t155.length : Int)) = true := decide_eq_true c21
       have c21b1 : decide (0 < t155.length) = true := decide_eq_true (by omega)
       clear c21
       by_cases c22 : ((rdOf ByteArray.empty t155 0).size : Int) = 12
       ·rw [if_pos c22] at H
        have c22b0 : (((rdOf ByteArray.empty t155 0).size : Int) == 12) = true := beq_iff_eq.mpr c22
        have c22b1 : (((rdOf ByteArray.empty t155 0).size : Int) != 12) = false := bne_eq_false_iff_eq.mpr c22
        clear c22
        by_cases c23 : 0 ≤ 9
        ·rw [if_pos c23] at H
         have c23b0 := eq_true c23
         have c23b1 : decide (0 ≤ 9) = true := decide_eq_true c23
         clear c23
         by_cases c24 : 9 ≤ ((rdOf ByteArray.empty t155 0).size : Int)
         ·rw [if_pos c24] at H
          have c24b0 := eq_true c24
          have c24b1 : decide (9 ≤ ((rdOf ByteArray.empty t155 0).size : Int)) = true := decide_eq_true c24
          clear c24
          have H' := Aside0.mk H
          clear H
          obtain ⟨Ao25, co25, eo25⟩ := Kd.R_slice HO157.1
          subst eo25
          have p159 : 0 ≤ (0 : Int) := (by omega)
          have q159 : 0 < (t155.length : Int) := of_decide_eq_true (by first | (with_reducible assumption) | assumption)
          obtain ⟨ad159, e159, hx159_0⟩ := Kd.at_string (Kd.R_reads' HO157.1).2.2 0 p159 q159
          cases e159
          have qi159 : (0 < t155.length) = True := eq_true (by omega)
          (try rw [show ((0 : Int)).toNat = 0 from rfl] at hx159_0)
          (try rw [Addr.add_zero'] at hx159_0)
          have hn159_0 : ad159.block ≠ gb158 := Kd.own_blk (Kd.R_ne HO157.1 BK158.1 (by decide))
          have hn159_1 : ad159.block ≠ gb158 := Kd.own_blk (Kd.R_ne HO157.1 BK158.1 (by decide))
          have hn159_2 : ad159.block ≠ gb158 := Kd.own_blk (Kd.R_ne HO157.1 BK158.1 (by decide))
          replace hx159_0 := (cell_far (p := ⟨gb158, 0, none⟩) (by first | (rw [add_block]; exact hn159_0) | (show (Addr.add _ _).block ≠ _; rw [add_block]; exact hn159_0) | exact hn159_0) (.int .i64 0)).trans hx159_0
          replace hx159_0 := (cell_far (p := ⟨gb158, 1, none⟩) (by first | (rw [add_block]; exact hn159_1) | (show (Addr.add _ _).block ≠ _; rw [add_block]; exact hn159_1) | exact hn159_1) (.slice none 0 0)).trans hx159_0
          replace hx159_0 := (cell_far (p := ⟨gb158, 2, none⟩) (by first | (rw [add_block]; exact hn159_2) | (show (Addr.add _ _).block ≠ _; rw [add_block]; exact hn159_2) | exact hn159_2) (.string (⟨#[]⟩ : ByteArray))).trans hx159_0
          clear hn159_0 hn159_1 hn159_2
          replace p159 := eq_true p159
          replace q159 := eq_true q159
          have p160 : 0 ≤ (0 : Int) := (by omega)
          have q160 : 0 < (t155.length : Int) := of_decide_eq_true (by first | (with_reducible assumption) | assumption)
          obtain ⟨ad160, e160, hx160_0⟩ := Kd.at_string (Kd.R_reads' HO157.1).2.2 0 p160 q160
          obtain rfl : ad159 = ad160 := (by injection e160)
          have qi160 : (0 < t155.length) = True := eq_true (by omega)
          (try rw [show ((0 : Int)).toNat = 0 from rfl] at hx160_0)
          (try rw [Addr.add_zero'] at hx160_0)
          have hn160_0 : ad159.block ≠ gb158 := Kd.own_blk (Kd.R_ne HO157.1 BK158.1 (by decide))
          have hn160_1 : ad159.block ≠ gb158 := Kd.own_blk (Kd.R_ne HO157.1 BK158.1 (by decide))
          have hn160_2 : ad159.block ≠ gb158 := Kd.own_blk (Kd.R_ne HO157.1 BK158.1 (by decide))
          replace hx160_0 := (cell_far (p := ⟨gb158, 0, none⟩) (by first | (rw [add_block]; exact hn160_0) | (show (Addr.add _ _).block ≠ _; rw [add_block]; exact hn160_0) | exact hn160_0) (.int .i64 0)).trans hx160_0
          replace hx160_0 := (cell_far (p := ⟨gb158, 1, none⟩) (by first | (rw [add_block]; exact hn160_1) | (show (Addr.add _ _).block ≠ _; rw [add_block]; exact hn160_1) | exact hn160_1) (.slice none 0 0)).trans hx160_0
          replace hx160_0 := (cell_far (p := ⟨gb158, 2, none⟩) (by first | (rw [add_block]; exact hn160_2) | (show (Addr.add _ _).block ≠ _; rw [add_block]; exact hn160_2) | exact hn160_2) (.string (⟨#[]⟩ : ByteArray))).trans hx160_0
          clear hn160_0 hn160_1 hn160_2
          replace p160 := eq_true p160
          replace q160 := eq_true q160
          go_wp2
          go_meet
          case rel => exact ⟨_, ((((rdOf ByteArray.empty t155 0).extract 0 9).toList != ([72, 84, 84, 80, 47, 49, 46, 49, 32] : List UInt8))), (by first | rfl | (simp; done) | (simp [*]; done) | (simp [empty_ne, *]; done)), H', ⟨by first | omega | exact Nat.le_refl _⟩, ⟨by (with_reducible repeat (first | apply rA_ | apply rN_ | apply rD_)); exact Kd.R_mono (rF_ (p := ⟨gb158, 2, none⟩) (rF_ (p := ⟨gb158, 1, none⟩) (rF_ (p := ⟨gb158, 0, none⟩) (Kd.R_types HO157.1 BK158.1 (by decide)) (fun _ hk => hk.2) (.int .i64 0)) (fun _ hk => hk.2) (.slice none 0 0)) (fun _ hk => hk.2) (.string (⟨#[]⟩ : ByteArray))) (fun _ hk => trivial)⟩, ⟨by (with_reducible repeat (first | refine bN_ ?_ _ | refine bD_ ?_ | refine bA_ ?_ _)); refine blk_far ?_ NB152_158.1 _; (with_reducible repeat (first | refine bN_ ?_ _ | refine bD_ ?_ | refine bA_ ?_ _)); refine blk_far ?_ NB152_158.1 _; (with_reducible repeat (first | refine bN_ ?_ _ | refine bD_ ?_ | refine bA_ ?_ _)); refine blk_far ?_ NB152_158.1 _; (with_reducible repeat (first | refine bN_ ?_ _ | refine bD_ ?_ | refine bA_ ?_ _)); exact BK152.1⟩, ⟨by (with_reducible repeat (first | refine bN_ ?_ _ | refine bD_ ?_ | refine bA_ ?_ _)); refine blk_put (cs := #[.int .i64 0, .slice none 0 0, .string (⟨#[]⟩ : ByteArray)]) ?_ 2 _ rfl; (with_reducible repeat (first | refine bN_ ?_ _ | refine bD_ ?_ | refine bA_ ?_ _)); refine blk_put (cs := #[.int .i64 0, .slice none 0 0, .string (⟨#[]⟩ : ByteArray)]) ?_ 1 _ rfl; (with_reducible repeat (first | refine bN_ ?_ _ | refine bD_ ?_ | refine bA_ ?_ _)); refine blk_put (cs := #[.int .i64 0, .slice none 0 0, .string (⟨#[]⟩ : ByteArray)]) ?_ 0 _ rfl; (with_reducible repeat (first | refine bN_ ?_ _ | refine bD_ ?_ | refine bA_ ?_ _)); exact BK158.1⟩, ⟨by repeat (first | (with_reducible first | exact HB.1 | apply aB_ | apply pN_ | apply dB_ | refine sB_ ?_ GE152.1 | refine sB_ ?_ GE158.1) | exact HB.1)⟩⟩
         ·rw [if_neg c24] at H
          exact absurd H (by simp)
        ·rw [if_neg c23] at H
         exact absurd H (by simp)
       ·rw [if_neg c22] at H
        have c22b0 : (((rdOf ByteArray.empty t155 0).size : Int) == 12) = false := beq_eq_false_iff_ne.mpr c22
        have c22b1 : (((rdOf ByteArray.empty t155 0).size : Int) != 12) = true := bne_iff_ne.mpr c22
        have H' := Aside0.mk H
        clear H
        obtain ⟨Ao26, co26, eo26⟩ := Kd.R_slice HO157.1
        subst eo26
        have p159 : 0 ≤ (0 : Int) := (by omega)
        have q159 : 0 < (t155.length : Int) := of_decide_eq_true (by first | (with_reducible assumption) | assumption)
        obtain ⟨ad159, e159, hx159_0⟩ := Kd.at_string (Kd.R_reads' HO157.1).2.2 0 p159 q159
        cases e159
        have qi159 : (0 < t155.length) = True := eq_true (by omega)
        (try rw [show ((0 : Int)).toNat = 0 from rfl] at hx159_0)
        (try rw [Addr.add_zero'] at hx159_0)
        have hn159_0 : ad159.block ≠ gb158 := Kd.own_blk (Kd.R_ne HO157.1 BK158.1 (by decide))
        have hn159_1 : ad159.block ≠ gb158 := Kd.own_blk (Kd.R_ne HO157.1 BK158.1 (by decide))
        have hn159_2 : ad159.block ≠ gb158 := Kd.own_blk (Kd.R_ne HO157.1 BK158.1 (by decide))
        replace hx159_0 := (cell_far (p := ⟨gb158, 0, none⟩) (by first | (rw [add_block]; exact hn159_0) | (show (Addr.add _ _).block ≠ _; rw [add_block]; exact hn159_0) | exact hn159_0) (.int .i64 0)).trans hx159_0
        replace hx159_0 := (cell_far (p := ⟨gb158, 1, none⟩) (by first | (rw [add_block]; exact hn159_1) | (show (Addr.add _ _).block ≠ _; rw [add_block]; exact hn159_1) | exact hn159_1) (.slice none 0 0)).trans hx159_0
        replace hx159_0 := (cell_far (p := ⟨gb158, 2, none⟩) (by first | (rw [add_block]; exact hn159_2) | (show (Addr.add _ _).block ≠ _; rw [add_block]; exact hn159_2) | exact hn159_2) (.string (⟨#[]⟩ : ByteArray))).trans hx159_0
        clear hn159_0 hn159_1 hn159_2
        replace p159 := eq_true p159
        replace q159 := eq_true q159
        go_wp2
        go_meet
        case rel => exact ⟨_, (true), (by first | rfl | (simp; done) | (simp [*]; done) | (simp [empty_ne, *]; done)), H', ⟨by first | omega | exact Nat.le_refl _⟩, ⟨by (with_reducible repeat (first | apply rA_ | apply rN_ | apply rD_)); exact Kd.R_mono (rF_ (p := ⟨gb158, 2, none⟩) (rF_ (p := ⟨gb158, 1, none⟩) (rF_ (p := ⟨gb158, 0, none⟩) (Kd.R_types HO157.1 BK158.1 (by decide)) (fun _ hk => hk.2) (.int .i64 0)) (fun _ hk => hk.2) (.slice none 0 0)) (fun _ hk => hk.2) (.string (⟨#[]⟩ : ByteArray))) (fun _ hk => trivial)⟩, ⟨by (with_reducible repeat (first | refine bN_ ?_ _ | refine bD_ ?_ | refine bA_ ?_ _)); refine blk_far ?_ NB152_158.1 _; (with_reducible repeat (first | refine bN_ ?_ _ | refine bD_ ?_ | refine bA_ ?_ _)); refine blk_far ?_ NB152_158.1 _; (with_reducible repeat (first | refine bN_ ?_ _ | refine bD_ ?_ | refine bA_ ?_ _)); refine blk_far ?_ NB152_158.1 _; (with_reducible repeat (first | refine bN_ ?_ _ | refine bD_ ?_ | refine bA_ ?_ _)); exact BK152.1⟩, ⟨by (with_reducible repeat (first | refine bN_ ?_ _ | refine bD_ ?_ | refine bA_ ?_ _)); refine blk_put (cs := #[.int .i64 0, .slice none 0 0, .string (⟨#[]⟩ : ByteArray)]) ?_ 2 _ rfl; (with_reducible repeat (first | refine bN_ ?_ _ | refine bD_ ?_ | refine bA_ ?_ _)); refine blk_put (cs := #[.int .i64 0, .slice none 0 0, .string (⟨#[]⟩ : ByteArray)]) ?_ 1 _ rfl; (with_reducible repeat (first | refine bN_ ?_ _ | refine bD_ ?_ | refine bA_ ?_ _)); refine blk_put (cs := #[.int .i64 0, .slice none 0 0, .string (⟨#[]⟩ : ByteArray)]) ?_ 0 _ rfl; (with_reducible repeat (first | refine bN_ ?_ _ | refine bD_ ?_ | refine bA_ ?_ _)); exact BK158.1⟩, ⟨by repeat (first | (with_reducible first | exact HB.1 | apply aB_ | apply pN_ | apply dB_ | refine sB_ ?_ GE152.1 | refine sB_ ?_ GE158.1) | exact HB.1)⟩⟩
      ·rw [if_neg c21] at H
       exact absurd H (by simp)
    case rest =>
     clear HC10
     try clear c1
     try clear p1
     try clear q1
     try clear hx1
     try clear hcv1
     try clear qi1
     try clear c2
     try clear p2
     try clear c3
     try clear c3b0
     try clear p6
     try clear c7
     try clear c7b0
     try clear c7b1
     try clear c8
     try clear c8b0
     try clear c8b1
     try clear c12
     try clear hcv13
     try clear hcv14
     try clear p15
     try clear q15
     try clear hx15
     try clear qi15
     try clear p16
     try clear q16
     try clear hx16
     try clear qi16
     try clear c17
     try clear c19
     try clear c19b0
     try clear c19b1
     try clear c21
     try clear c21b0
     try clear c21b1
     try clear c22
     try clear c22b0
     try clear c22b1
     try clear c23
     try clear c23b0
     try clear c23b1
     try clear c24
     try clear c24b0
     try clear c24b1
     try clear hcz18_0
     try clear hcz18_1
     try clear hcz18_2
     try clear hcz5_0
     try clear hcz5_1
     try clear hcz5_2
     try clear hfz18_0
     try clear hfz18_1
     try clear hfz18_2
     try clear hfz5_0
     try clear hfz5_1
     try clear hfz5_2
     try clear hx159_0
     try clear hx160_0
     try clear p159
     try clear p160
     try clear q159
     try clear q160
     obtain ⟨kq, x40_9, rfl, HA, HJ9, HO_6, BK152, BK158, HB⟩ := hcut
     cases kq with
     | zero => exact absurd HA.1 (by simp [spec_GetResp.j0])
     | succ kj9 =>
      have H := HA.1
      clear HA
      simp only [spec_GetResp.j0] at H
      by_cases c27 : x40_9 = true
      ·subst c27
       have H1 : (some (0, ([] : List (S88)), (⟨#[]⟩ : ByteArray), 0, false)) = some (r1, r2, r3, r4, r5) := by rw [if_pos rfl] at H; exact H
       clear H
       have H := H1
       clear H1
       simp only [Option.some.injEq, Prod.mk.injEq] at H
       obtain ⟨rfl, rfl, rfl, rfl, rfl⟩ := H
       have hnb28 := NB152_158.1
       have hnc28 := NB158_152.1
       have hcz29_0 : wc.cell? ⟨gb152, 0, none⟩ = some (.int .i64 0) := (bc_ BK152.1 0).trans rfl
       have hcz29_1 : wc.cell? ⟨gb152, 1, none⟩ = some (.slice none 0 0) := (bc_ BK152.1 1).trans rfl
       have hcz29_2 : wc.cell? ⟨gb152, 2, none⟩ = some (.string (⟨#[]⟩ : ByteArray)) := (bc_ BK152.1 2).trans rfl
       have hfz29_0 := bF_ BK152.1 0
       have hfz29_1 := bF_ BK152.1 1
       have hfz29_2 := bF_ BK152.1 2
       go_wp2
       refine bodyPost_ret (results_ctt rfl _ _ gb152 25 #[.int .i64 0, .slice none 0 0, .string (⟨#[]⟩ : ByteArray)] (0, 0) _ rfl (by (with_reducible repeat (first | refine bN_ ?_ _ | refine bD_ ?_ | refine bA_ ?_ _)); refine blk_put (cs := #[.int .i64 0, .slice none 0 0, .string (⟨#[]⟩ : ByteArray)]) ?_ 2 _ rfl; (with_reducible repeat (first | refine bN_ ?_ _ | refine bD_ ?_ | refine bA_ ?_ _)); refine blk_put (cs := #[.int .i64 0, .slice none 0 0, .string (⟨#[]⟩ : ByteArray)]) ?_ 1 _ rfl; (with_reducible repeat (first | refine bN_ ?_ _ | refine bD_ ?_ | refine bA_ ?_ _)); refine blk_put (cs := #[.int .i64 0, .slice none 0 0, .string (⟨#[]⟩ : ByteArray)]) ?_ 0 _ rfl; (with_reducible repeat (first | refine bN_ ?_ _ | refine bD_ ?_ | refine bA_ ?_ _)); exact BK152.1) Tryz.underlying25 rfl (by kernel_rfl)) rfl ?_
       exact ⟨_, by first | rfl | (simp [errW_none, errW_some] <;> rfl) | (simp only [← hji6]; first | rfl | (simp [errW_none, errW_some] <;> rfl)) | (simp [*, errW_none, errW_some] <;> rfl), by first | exact Kd.R_nil _ _ _ _ _ | exact Kd.N_nil _ _ _ _ _ | exact Kd.V_nil _ _ _ _ _ | exact Kd.Q_nil _ _ _ _ _ | exact Kd.S_nil _ _ _ _ _, by repeat (first | (with_reducible first | exact HB.1 | apply aB_ | apply pN_ | apply dB_ | refine sB_ ?_ GE152.1 | refine sB_ ?_ GE158.1) | exact HB.1)⟩
      ·replace c27 := Bool.eq_false_iff.mpr c27
       subst c27
       have H1 : (if 0 < (t155.length : Int) then (if 9 ≤ ((rdOf ByteArray.empty t155 0).size : Int) then ((spec_ParseNum.f kj9 ((rdOf ByteArray.empty t155 0).extract 9 (rdOf ByteArray.empty t155 0).size) 599).bind fun bt162 => (spec_GetResp.l0 kj9 l0 t153 t155 (-1) 1 bt162.1 ([] : List (S88)) (⟨#[]⟩ : ByteArray))) else (none)) else (none)) = some (r1, r2, r3, r4, r5) := by rw [if_neg (show ¬ (false = true) by decide)] at H; exact H
       clear H
       have H := H1
       clear H1
       by_cases c30 : 0 < (t155.length : Int)
       ·rw [if_pos c30] at H
        have c30b0 : decide (0 < (t155.length : Int)) = true := decide_eq_true c30
        have c30b1 : decide (0 < t155.length) = true := decide_eq_true (by omega)
        clear c30
        by_cases c31 : 9 ≤ ((rdOf ByteArray.empty t155 0).size : Int)
        ·rw [if_pos c31] at H
         have c31b0 := eq_true c31
         have c31b1 : decide (9 ≤ ((rdOf ByteArray.empty t155 0).size : Int)) = true := decide_eq_true c31
         clear c31
         replace H := Option.bind_eq_some_iff.mp H
         obtain ⟨⟨t162, t163⟩, A320, H⟩ := H
         replace H : (spec_GetResp.l0 kj9 l0 t153 t155 (-1) 1 t162 ([] : List (S88)) (⟨#[]⟩ : ByteArray)) = some (r1, r2, r3, r4, r5) := H
         have A32 := Aside0.mk A320
         clear A320
         have H' := Aside0.mk H
         clear H
         obtain ⟨Ao33, co33, eo33⟩ := Kd.R_slice HO_6.1
         subst eo33
         have p161 : 0 ≤ (0 : Int) := (by omega)
         have q161 : 0 < (t155.length : Int) := of_decide_eq_true (by first | (with_reducible assumption) | assumption)
         obtain ⟨ad161, e161, hx161_0⟩ := Kd.at_string (Kd.R_reads' HO_6.1).2.2 0 p161 q161
         cases e161
         have qi161 : (0 < t155.length) = True := eq_true (by omega)
         (try rw [show ((0 : Int)).toNat = 0 from rfl] at hx161_0)
         (try rw [Addr.add_zero'] at hx161_0)
         replace p161 := eq_true p161
         replace q161 := eq_true q161
         go_wp2_with (first | ((with_reducible refine gate_callee (f := 73) rfl ?_); refine goesL_ (some 47) rfl rfl Tryz.func73 (by kernel_rfl) rfl #[.string ((rdOf ByteArray.empty t155 0).extract 9 (rdOf ByteArray.empty t155 0).size), .int .i64 599] rfl (by (try simp only [List.map_toArray, List.map_cons, List.map_nil]); first | done | rfl | (simp only [List.length_drop, List.length_take]; rfl)) ?_; (with_reducible refine (spec_ParseNum.calls kj9 ((rdOf ByteArray.empty t155 0).extract 9 (rdOf ByteArray.empty t155 0).size) 599 t162 t163 _ A32.1).mono ?_); rintro e w' ⟨rfl, ⟨nd, rfl⟩⟩; refine ⟨_, rfl, ?_⟩; (try (rw [drewN_self wc]; generalize hq_ : World.drewN wc _ = wc; have n0_ : Aside0 (Kd.R Kd.string 9 wc w.heap.size (fun _ => True) (.slice (some ad161) t155.length co33) t155) := ⟨by rw [← hq_]; exact (by (with_reducible repeat (first | apply rA_ | apply rN_ | apply rD_)); exact HO_6.1)⟩; have n1_ : Aside0 (wc.heap[gb152]? = some (.cells #[.int .i64 0, .slice none 0 0, .string (⟨#[]⟩ : ByteArray)] 25 (0, 0))) := ⟨by rw [← hq_]; exact (by (with_reducible repeat (first | refine bN_ ?_ _ | refine bD_ ?_ | refine bA_ ?_ _)); exact BK152.1)⟩; have n2_ : Aside0 (wc.heap[gb158]? = some (.cells #[.int .i64 0, .slice none 0 0, .string (⟨#[]⟩ : ByteArray)] 25 (0, 0))) := ⟨by rw [← hq_]; exact (by (with_reducible repeat (first | refine bN_ ?_ _ | refine bD_ ?_ | refine bA_ ?_ _)); exact BK158.1)⟩; have n3_ : Aside0 (Below w.heap.size w wc) := ⟨by rw [← hq_]; exact (by repeat (first | (with_reducible first | exact HB.1 | apply aB_ | apply pN_ | apply dB_ | refine sB_ ?_ GE152.1 | refine sB_ ?_ GE158.1) | exact HB.1))⟩; clear HO_6 BK152 BK158 HB hq_; have HO_6 := n0_; have BK152 := n1_; have BK158 := n2_; have HB := n3_; clear n0_ n1_ n2_ n3_)); have hnb34 := NB158_152.1; have hnc34 := NB152_158.1; have hcz35_0 : wc.cell? ⟨gb158, 0, none⟩ = some (.int .i64 0) := (bc_ BK158.1 0).trans rfl; have hcz35_1 : wc.cell? ⟨gb158, 1, none⟩ = some (.slice none 0 0) := (bc_ BK158.1 1).trans rfl; have hcz35_2 : wc.cell? ⟨gb158, 2, none⟩ = some (.string (⟨#[]⟩ : ByteArray)) := (bc_ BK158.1 2).trans rfl; have hfz35_0 := bF_ BK158.1 0; have hfz35_1 := bF_ BK158.1 1; have hfz35_2 := bF_ BK158.1 2))
         go_loopg [8, 9] kj9 (fun kq v8 v9 w' => ∃ (x8_2 : Int) (x9_2 : Int) (x153000_2 : Int) (x153002_2 : ByteArray) (x159001_2 : List (S88)) (u159001 : Value), v8 = .int .i64 x8_2 ∧ v9 = .int .i64 x9_2 ∧ Aside0 (spec_GetResp.l0 kq l0 t153 t155 x8_2 x9_2 t162 x159001_2 (⟨#[]⟩ : ByteArray) = some (r1, r2, r3, r4, r5)) ∧ Aside0 (kq ≤ kj9) ∧ Aside0 (Kd.R Kd.string 9 w' w.heap.size (fun _ => True) (.slice (some ad161) t155.length co33) t155) ∧ Aside0 (Kd.R k88 88 w' w.heap.size (fun _ => True) u159001 x159001_2) ∧ Aside0 (w'.heap[gb152]? = some (.cells #[.int .i64 x153000_2, (.slice none 0 0), .string x153002_2] 25 (0, 0))) ∧ Aside0 (w'.heap[gb158]? = some (.cells #[.int .i64 t162, u159001, .string (⟨#[]⟩ : ByteArray)] 25 (0, 0))) ∧ Aside0 (Below w.heap.size w w'))
         case atStart => exact ⟨((-1)), (1), (0), ((⟨#[]⟩ : ByteArray)), (([] : List (S88))), (.slice none 0 0), (by first | rfl | (simp; done) | (simp [*]; done) | (simp [empty_ne, *]; done)), (by first | rfl | (simp; done) | (simp [*]; done) | (simp [empty_ne, *]; done)), H', ⟨Nat.le_refl _⟩, ⟨by (with_reducible repeat (first | apply rA_ | apply rN_ | apply rD_)); exact Kd.R_mono (rF_ (p := ⟨gb158, 0, none⟩) (Kd.R_types HO_6.1 BK158.1 (by decide)) (fun _ hk => hk.2) (.int .i64 t162)) (fun _ hk => trivial)⟩, ⟨by first | exact Kd.R_nil _ _ _ _ _ | exact Kd.N_nil _ _ _ _ _ | exact Kd.V_nil _ _ _ _ _ | exact Kd.Q_nil _ _ _ _ _ | exact Kd.S_nil _ _ _ _ _⟩, ⟨by (with_reducible repeat (first | refine bN_ ?_ _ | refine bD_ ?_ | refine bA_ ?_ _)); refine blk_far ?_ NB152_158.1 _; (with_reducible repeat (first | refine bN_ ?_ _ | refine bD_ ?_ | refine bA_ ?_ _)); exact BK152.1⟩, ⟨by (with_reducible repeat (first | refine bN_ ?_ _ | refine bD_ ?_ | refine bA_ ?_ _)); refine blk_put (cs := #[.int .i64 0, .slice none 0 0, .string (⟨#[]⟩ : ByteArray)]) ?_ 0 _ rfl; (with_reducible repeat (first | refine bN_ ?_ _ | refine bD_ ?_ | refine bA_ ?_ _)); exact BK158.1⟩, ⟨by repeat (first | (with_reducible first | exact HB.1 | apply aB_ | apply pN_ | apply dB_ | refine sB_ ?_ GE152.1 | refine sB_ ?_ GE158.1) | exact HB.1)⟩⟩
         case round =>
          clear H'
          try clear c1
          try clear p1
          try clear q1
          try clear hx1
          try clear hcv1
          try clear qi1
          try clear c2
          try clear p2
          try clear c3
          try clear c3b0
          try clear p6
          try clear c7
          try clear c7b0
          try clear c7b1
          try clear c8
          try clear c8b0
          try clear c8b1
          try clear c12
          try clear hcv13
          try clear hcv14
          try clear p15
          try clear q15
          try clear hx15
          try clear qi15
          try clear p16
          try clear q16
          try clear hx16
          try clear qi16
          try clear c17
          try clear c19
          try clear c19b0
          try clear c19b1
          try clear c21
          try clear c21b0
          try clear c21b1
          try clear c22
          try clear c22b0
          try clear c22b1
          try clear c23
          try clear c23b0
          try clear c23b1
          try clear c24
          try clear c24b0
          try clear c24b1
          try clear c27
          try clear c28
          try clear c30
          try clear c30b0
          try clear c30b1
          try clear c31
          try clear c31b0
          try clear c31b1
          try clear c34
          try clear hcz18_0
          try clear hcz18_1
          try clear hcz18_2
          try clear hcz29_0
          try clear hcz29_1
          try clear hcz29_2
          try clear hcz35_0
          try clear hcz35_1
          try clear hcz35_2
          try clear hcz5_0
          try clear hcz5_1
          try clear hcz5_2
          try clear hfz18_0
          try clear hfz18_1
          try clear hfz18_2
          try clear hfz29_0
          try clear hfz29_1
          try clear hfz29_2
          try clear hfz35_0
          try clear hfz35_1
          try clear hfz35_2
          try clear hfz5_0
          try clear hfz5_1
          try clear hfz5_2
          try clear hx159_0
          try clear hx160_0
          try clear hx161_0
          try clear p1
          try clear p15
          try clear p159
          try clear p16
          try clear p160
          try clear p161
          try clear p2
          try clear p6
          try clear q1
          try clear q15
          try clear q159
          try clear q16
          try clear q160
          try clear q161
          obtain ⟨x8_2, x9_2, x153000_2, x153002_2, x159001_2, u159001, rfl, rfl, HA, HK2, HO_6, HO_159001, BK152, BK158, HB⟩ := hrel
          cases gk with
          | zero => exact absurd HA.1 (by simp [spec_GetResp.l0])
          | succ k2 =>
           have H := HA.1
           clear HA
           simp only [spec_GetResp.l0] at H
           by_cases c36 : x9_2 < (t155.length : Int)
           ·rw [if_pos c36] at H
            have c36b0 : decide (x9_2 < (t155.length : Int)) = true := decide_eq_true c36
            clear c36
            by_cases c37 : 0 ≤ x9_2
            ·rw [if_pos c37] at H
             have c37b0 : decide (0 ≤ x9_2) = true := decide_eq_true c37
             clear c37
             replace H := Option.bind_eq_some_iff.mp H
             obtain ⟨⟨t165, t166, t167⟩, A380, H⟩ := H
             replace H : (if t167 = true then (if x9_2 = (wrap64 ((t155.length : Int) - 1)) then (spec_GetResp.j2 k2 l0 t153 t155 x8_2 x9_2 t167 (t165.toList == ([99, 111, 110, 116, 101, 110, 116, 45, 108, 101, 110, 103, 116, 104] : List UInt8)) t162 x159001_2 (⟨#[]⟩ : ByteArray) t165 t166) else (spec_GetResp.j2 k2 l0 t153 t155 x8_2 x9_2 t167 false t162 x159001_2 (⟨#[]⟩ : ByteArray) t165 t166)) else (some (0, ([] : List (S88)), (⟨#[]⟩ : ByteArray), 0, false))) = some (r1, r2, r3, r4, r5) := H
             have A38 := Aside0.mk A380
             clear A380
             by_cases c39 : t167 = true
             ·subst c39
              have H1 : (if x9_2 = (wrap64 ((t155.length : Int) - 1)) then (spec_GetResp.j2 k2 l0 t153 t155 x8_2 x9_2 true (t165.toList == ([99, 111, 110, 116, 101, 110, 116, 45, 108, 101, 110, 103, 116, 104] : List UInt8)) t162 x159001_2 (⟨#[]⟩ : ByteArray) t165 t166) else (spec_GetResp.j2 k2 l0 t153 t155 x8_2 x9_2 true false t162 x159001_2 (⟨#[]⟩ : ByteArray) t165 t166)) = some (r1, r2, r3, r4, r5) := by rw [if_pos rfl] at H; exact H
              clear H
              have H := H1
              clear H1
              have HC40 := Aside0.mk H
              clear H
              have p164 : 0 ≤ (x9_2 : Int) := of_decide_eq_true (by first | (with_reducible assumption) | assumption)
              have q164 : x9_2 < (t155.length : Int) := of_decide_eq_true (by first | (with_reducible assumption) | assumption)
              obtain ⟨ad164, e164, hx164_0⟩ := Kd.at_string (Kd.R_reads' HO_6.1).2.2 x9_2 p164 q164
              obtain rfl : ad161 = ad164 := (by injection e164)
              replace p164 := eq_true p164
              replace q164 := eq_true q164
              go_upto_region 16 with (first | ((with_reducible refine gate_callee (f := 74) rfl ?_); refine goesL_ (some 62) rfl rfl Tryz.func74 (by kernel_rfl) rfl #[.string (rdOf ByteArray.empty t155 x9_2)] rfl (by (try simp only [List.map_toArray, List.map_cons, List.map_nil]); first | done | rfl | (simp only [List.length_drop, List.length_take]; rfl)) ?_; (with_reducible refine (spec_l5Head.calls k2 (rdOf ByteArray.empty t155 x9_2) t165 t166 true _ A38.1).mono ?_); rintro e w41 ⟨rfl, hb⟩; refine ⟨_, rfl, ?_⟩; have n0_ := Aside0.mk (Kd.R_below (by (with_reducible repeat (first | apply rA_ | apply rN_ | apply rD_)); exact HO_6.1) hb); have n1_ := Aside0.mk (Kd.R_below (by (with_reducible repeat (first | apply rA_ | apply rN_ | apply rD_)); exact HO_159001.1) hb); have n2_ := Aside0.mk (bB_ (g := gb152) (o := .cells #[.int .i64 x153000_2, .slice none 0 0, .string x153002_2] 25 (0, 0)) (by (with_reducible repeat (first | refine bN_ ?_ _ | refine bD_ ?_ | refine bA_ ?_ _)); exact BK152.1) hb); have n3_ := Aside0.mk (bB_ (g := gb158) (o := .cells #[.int .i64 t162, u159001, .string (⟨#[]⟩ : ByteArray)] 25 (0, 0)) (by (with_reducible repeat (first | refine bN_ ?_ _ | refine bD_ ?_ | refine bA_ ?_ _)); exact BK158.1) hb); have n4_ := Aside0.mk (below_step (by repeat (first | (with_reducible first | exact HB.1 | apply aB_ | apply pN_ | apply dB_ | refine sB_ ?_ GE152.1 | refine sB_ ?_ GE158.1) | exact HB.1)) hb); clear HO_6 HO_159001; clear BK152 BK158 HB; have HO_6 := n0_; have HO_159001 := n1_; have BK152 := n2_; have BK158 := n3_; have HB := n4_; clear n0_ n1_ n2_ n3_ n4_; (try clear hb); (try clear hb2); (try clear hk); (try clear hi)) | ((with_reducible refine gate_dst (N := 10) rfl ?_); (try (refine gate_guard (by rfl) ?_; dsimp only)); refine box_event ?hg (N := 10) ?hd (cs := #[.string (⟨#[]⟩ : ByteArray), .string (⟨#[]⟩ : ByteArray)]) (t := 88) ?hr ?_; (case hd => rfl); (case hg => rfl); (case hr => first | (go_simp; done) | (go_simp; rfl)); intro gb168 hg w42 hbox hb; have n0_ := Aside0.mk (Kd.R_below (by (with_reducible repeat (first | apply rA_ | apply rN_ | apply rD_)); exact HO_6.1) hb); have n1_ := Aside0.mk (Kd.R_below (Kd.R_elderB (by (with_reducible repeat (first | apply rA_ | apply rN_ | apply rD_)); exact HO_159001.1) gb168 (Nat.le_of_eq hg.symm)) hb); have n2_ := Aside0.mk (bB_ (g := gb152) (o := .cells #[.int .i64 x153000_2, .slice none 0 0, .string x153002_2] 25 (0, 0)) (by (with_reducible repeat (first | refine bN_ ?_ _ | refine bD_ ?_ | refine bA_ ?_ _)); exact BK152.1) hb); have n3_ := Aside0.mk (bB_ (g := gb158) (o := .cells #[.int .i64 t162, u159001, .string (⟨#[]⟩ : ByteArray)] 25 (0, 0)) (by (with_reducible repeat (first | refine bN_ ?_ _ | refine bD_ ?_ | refine bA_ ?_ _)); exact BK158.1) hb); have n4_ := Aside0.mk (below_step (by repeat (first | (with_reducible first | exact HB.1 | apply aB_ | apply pN_ | apply dB_ | refine sB_ ?_ GE152.1 | refine sB_ ?_ GE158.1) | exact HB.1)) hb); have n5_ := Aside0.mk (hbox); have n6_ := Aside0.mk ((by rw [hg]; exact (below_size (by repeat (first | (with_reducible first | exact HB.1 | apply aB_ | apply pN_ | apply dB_ | refine sB_ ?_ GE152.1 | refine sB_ ?_ GE158.1) | exact HB.1))) : w.heap.size ≤ gb168)); have n7_ := Aside0.mk ((by rw [hg]; exact (below_size (by repeat (first | (with_reducible first | exact HB.1 | apply aB_ | apply pN_ | apply dB_ | refine sB_ ?_ GE152.1 | refine sB_ ?_ GE158.1) | exact HB.1))) : w.heap.size ≤ gb168)); have n8_ := Aside0.mk ((by rw [hg]; exact Nat.ne_of_lt (blk_lt (g := gb152) (o := .cells #[.int .i64 x153000_2, .slice none 0 0, .string x153002_2] 25 (0, 0)) (by (with_reducible repeat (first | refine bN_ ?_ _ | refine bD_ ?_ | refine bA_ ?_ _)); exact BK152.1)) : gb152 ≠ gb168)); have n9_ := Aside0.mk ((by rw [hg]; exact Nat.ne_of_gt (blk_lt (g := gb152) (o := .cells #[.int .i64 x153000_2, .slice none 0 0, .string x153002_2] 25 (0, 0)) (by (with_reducible repeat (first | refine bN_ ?_ _ | refine bD_ ?_ | refine bA_ ?_ _)); exact BK152.1)) : gb168 ≠ gb152)); have n10_ := Aside0.mk ((by rw [hg]; exact Nat.ne_of_lt (blk_lt (g := gb158) (o := .cells #[.int .i64 t162, u159001, .string (⟨#[]⟩ : ByteArray)] 25 (0, 0)) (by (with_reducible repeat (first | refine bN_ ?_ _ | refine bD_ ?_ | refine bA_ ?_ _)); exact BK158.1)) : gb158 ≠ gb168)); have n11_ := Aside0.mk ((by rw [hg]; exact Nat.ne_of_gt (blk_lt (g := gb158) (o := .cells #[.int .i64 t162, u159001, .string (⟨#[]⟩ : ByteArray)] 25 (0, 0)) (by (with_reducible repeat (first | refine bN_ ?_ _ | refine bD_ ?_ | refine bA_ ?_ _)); exact BK158.1)) : gb168 ≠ gb158)); clear HO_6 HO_159001; clear BK152 BK158 HB; have HO_6 := n0_; have HO_159001 := n1_; have BK152 := n2_; have BK158 := n3_; have HB := n4_; have BK168 := n5_; have GW168 := n6_; have GE168 := n7_; have NB152_168 := n8_; have NB168_152 := n9_; have NB158_168 := n10_; have NB168_158 := n11_; clear n0_ n1_ n2_ n3_ n4_ n5_ n6_ n7_ n8_ n9_ n10_ n11_; clear hb hbox hg; have hnb43 := NB168_152.1; have hnc43 := NB152_168.1; have hnb44 := NB168_158.1; have hnc44 := NB158_168.1; have hcz45_0 : w42.cell? ⟨gb168, 0, none⟩ = some (.string (⟨#[]⟩ : ByteArray)) := (bc_ BK168.1 0).trans rfl; have hcz45_1 : w42.cell? ⟨gb168, 1, none⟩ = some (.string (⟨#[]⟩ : ByteArray)) := (bc_ BK168.1 1).trans rfl; have hfz45_0 := bF_ BK168.1 0; have hfz45_1 := bF_ BK168.1 1))
              (try simp only [Act.put, List.setIfInBounds_toArray, List.set_cons_zero, List.set_cons_succ])
              go_cut [77] (fun v77 wc => ∃ (kq : Nat) (x77_39 : Bool), v77 = .bool x77_39 ∧ Aside0 (spec_GetResp.j2 kq l0 t153 t155 x8_2 x9_2 true x77_39 t162 x159001_2 (⟨#[]⟩ : ByteArray) t165 t166 = some (r1, r2, r3, r4, r5)) ∧ Aside0 (kq ≤ k2) ∧ Aside0 (Kd.R Kd.string 9 wc w.heap.size (fun _ => True) (.slice (some ad161) t155.length co33) t155) ∧ Aside0 (Kd.R k88 88 wc w.heap.size (fun k_ => k_ ≠ gb168) u159001 x159001_2) ∧ Aside0 (wc.heap[gb152]? = some (.cells #[.int .i64 x153000_2, (.slice none 0 0), .string x153002_2] 25 (0, 0))) ∧ Aside0 (wc.heap[gb158]? = some (.cells #[.int .i64 t162, u159001, .string (⟨#[]⟩ : ByteArray)] 25 (0, 0))) ∧ Aside0 (wc.heap[gb168]? = some (.cells #[.string t165, .string t166] 88 (0, 0))) ∧ Aside0 (Below w.heap.size w wc))
              case first =>
               have H := HC40.1
               clear HC40
               by_cases c46 : x9_2 = (wrap64 ((t155.length : Int) - 1))
               ·rw [if_pos c46] at H
                have c46b0 : (x9_2 == (wrap64 ((t155.length : Int) - 1))) = true := beq_iff_eq.mpr c46
                have c46b1 : (x9_2 != (wrap64 ((t155.length : Int) - 1))) = false := bne_eq_false_iff_eq.mpr c46
                clear c46
                (first | rw [c46b0] | (simp only [i64_w, i32_w]; rw [c46b0]) | skip)
                have H' := Aside0.mk H
                clear H
                have hnb47 := NB168_152.1
                have hnc47 := NB152_168.1
                have hnb48 := NB168_158.1
                have hnc48 := NB158_168.1
                have hcz49_0 : w42.cell? ⟨gb168, 0, none⟩ = some (.string (⟨#[]⟩ : ByteArray)) := (bc_ BK168.1 0).trans rfl
                have hcz49_1 : w42.cell? ⟨gb168, 1, none⟩ = some (.string (⟨#[]⟩ : ByteArray)) := (bc_ BK168.1 1).trans rfl
                have hfz49_0 := bF_ BK168.1 0
                have hfz49_1 := bF_ BK168.1 1
                go_wp2
                go_meet
                case rel => exact ⟨_, ((t165.toList == ([99, 111, 110, 116, 101, 110, 116, 45, 108, 101, 110, 103, 116, 104] : List UInt8))), (by first | rfl | (simp; done) | (simp [*]; done) | (simp [empty_ne, *]; done)), H', ⟨by have := HJ9.1; have := HK2.1; first | omega | exact Nat.le_refl _⟩, ⟨by (with_reducible repeat (first | apply rA_ | apply rN_ | apply rD_)); exact Kd.R_mono (rF_ (p := ⟨gb168, 1, none⟩) (rF_ (p := ⟨gb168, 0, none⟩) (Kd.R_types HO_6.1 BK168.1 (by decide)) (fun _ hk => hk.2) (.string t165)) (fun _ hk => hk.2) (.string t166)) (fun _ hk => trivial)⟩, ⟨by (with_reducible repeat (first | apply rA_ | apply rN_ | apply rD_)); exact Kd.R_mono (rF_ (p := ⟨gb168, 1, none⟩) (rF_ (p := ⟨gb168, 0, none⟩) (Kd.R_mono HO_159001.1 (fun k_ hk => (⟨hk, hk.2⟩ : _ ∧ k_ ≠ gb168))) (fun _ hk => hk.2) (.string t165)) (fun _ hk => hk.2) (.string t166)) (fun _ hk => hk.1.2)⟩, ⟨by (with_reducible repeat (first | refine bN_ ?_ _ | refine bD_ ?_ | refine bA_ ?_ _)); refine blk_far ?_ NB152_168.1 _; (with_reducible repeat (first | refine bN_ ?_ _ | refine bD_ ?_ | refine bA_ ?_ _)); refine blk_far ?_ NB152_168.1 _; (with_reducible repeat (first | refine bN_ ?_ _ | refine bD_ ?_ | refine bA_ ?_ _)); exact BK152.1⟩, ⟨by (with_reducible repeat (first | refine bN_ ?_ _ | refine bD_ ?_ | refine bA_ ?_ _)); refine blk_far ?_ NB158_168.1 _; (with_reducible repeat (first | refine bN_ ?_ _ | refine bD_ ?_ | refine bA_ ?_ _)); refine blk_far ?_ NB158_168.1 _; (with_reducible repeat (first | refine bN_ ?_ _ | refine bD_ ?_ | refine bA_ ?_ _)); exact BK158.1⟩, ⟨by (with_reducible repeat (first | refine bN_ ?_ _ | refine bD_ ?_ | refine bA_ ?_ _)); refine blk_put (cs := #[.string t165, .string (⟨#[]⟩ : ByteArray)]) ?_ 1 _ rfl; (with_reducible repeat (first | refine bN_ ?_ _ | refine bD_ ?_ | refine bA_ ?_ _)); refine blk_put (cs := #[.string (⟨#[]⟩ : ByteArray), .string (⟨#[]⟩ : ByteArray)]) ?_ 0 _ rfl; (with_reducible repeat (first | refine bN_ ?_ _ | refine bD_ ?_ | refine bA_ ?_ _)); exact BK168.1⟩, ⟨by repeat (first | (with_reducible first | exact HB.1 | apply aB_ | apply pN_ | apply dB_ | refine sB_ ?_ GE152.1 | refine sB_ ?_ GE158.1 | refine sB_ ?_ GE168.1) | exact HB.1)⟩⟩
               ·rw [if_neg c46] at H
                have c46b0 : (x9_2 == (wrap64 ((t155.length : Int) - 1))) = false := beq_eq_false_iff_ne.mpr c46
                have c46b1 : (x9_2 != (wrap64 ((t155.length : Int) - 1))) = true := bne_iff_ne.mpr c46
                (first | rw [c46b0] | (simp only [i64_w, i32_w]; rw [c46b0]) | skip)
                have H' := Aside0.mk H
                clear H
                go_wp2
                go_meet
                case rel => exact ⟨_, (false), (by first | rfl | (simp; done) | (simp [*]; done) | (simp [empty_ne, *]; done)), H', ⟨by have := HJ9.1; have := HK2.1; first | omega | exact Nat.le_refl _⟩, ⟨by (with_reducible repeat (first | apply rA_ | apply rN_ | apply rD_)); exact Kd.R_mono (rF_ (p := ⟨gb168, 1, none⟩) (rF_ (p := ⟨gb168, 0, none⟩) (Kd.R_types HO_6.1 BK168.1 (by decide)) (fun _ hk => hk.2) (.string t165)) (fun _ hk => hk.2) (.string t166)) (fun _ hk => trivial)⟩, ⟨by (with_reducible repeat (first | apply rA_ | apply rN_ | apply rD_)); exact Kd.R_mono (rF_ (p := ⟨gb168, 1, none⟩) (rF_ (p := ⟨gb168, 0, none⟩) (Kd.R_mono HO_159001.1 (fun k_ hk => (⟨hk, hk.2⟩ : _ ∧ k_ ≠ gb168))) (fun _ hk => hk.2) (.string t165)) (fun _ hk => hk.2) (.string t166)) (fun _ hk => hk.1.2)⟩, ⟨by (with_reducible repeat (first | refine bN_ ?_ _ | refine bD_ ?_ | refine bA_ ?_ _)); refine blk_far ?_ NB152_168.1 _; (with_reducible repeat (first | refine bN_ ?_ _ | refine bD_ ?_ | refine bA_ ?_ _)); refine blk_far ?_ NB152_168.1 _; (with_reducible repeat (first | refine bN_ ?_ _ | refine bD_ ?_ | refine bA_ ?_ _)); exact BK152.1⟩, ⟨by (with_reducible repeat (first | refine bN_ ?_ _ | refine bD_ ?_ | refine bA_ ?_ _)); refine blk_far ?_ NB158_168.1 _; (with_reducible repeat (first | refine bN_ ?_ _ | refine bD_ ?_ | refine bA_ ?_ _)); refine blk_far ?_ NB158_168.1 _; (with_reducible repeat (first | refine bN_ ?_ _ | refine bD_ ?_ | refine bA_ ?_ _)); exact BK158.1⟩, ⟨by (with_reducible repeat (first | refine bN_ ?_ _ | refine bD_ ?_ | refine bA_ ?_ _)); refine blk_put (cs := #[.string t165, .string (⟨#[]⟩ : ByteArray)]) ?_ 1 _ rfl; (with_reducible repeat (first | refine bN_ ?_ _ | refine bD_ ?_ | refine bA_ ?_ _)); refine blk_put (cs := #[.string (⟨#[]⟩ : ByteArray), .string (⟨#[]⟩ : ByteArray)]) ?_ 0 _ rfl; (with_reducible repeat (first | refine bN_ ?_ _ | refine bD_ ?_ | refine bA_ ?_ _)); exact BK168.1⟩, ⟨by repeat (first | (with_reducible first | exact HB.1 | apply aB_ | apply pN_ | apply dB_ | refine sB_ ?_ GE152.1 | refine sB_ ?_ GE158.1 | refine sB_ ?_ GE168.1) | exact HB.1)⟩⟩
              case rest =>
               clear HC40
               try clear c1
               try clear p1
               try clear q1
               try clear hx1
               try clear hcv1
               try clear qi1
               try clear c2
               try clear p2
               try clear c3
               try clear c3b0
               try clear c4
               try clear p6
               try clear c7
               try clear c7b0
               try clear c7b1
               try clear c8
               try clear c8b0
               try clear c8b1
               try clear c12
               try clear hcv13
               try clear hcv14
               try clear p15
               try clear q15
               try clear hx15
               try clear qi15
               try clear p16
               try clear q16
               try clear hx16
               try clear qi16
               try clear c17
               try clear c19
               try clear c19b0
               try clear c19b1
               try clear c21
               try clear c21b0
               try clear c21b1
               try clear c22
               try clear c22b0
               try clear c22b1
               try clear c23
               try clear c23b0
               try clear c23b1
               try clear c24
               try clear c24b0
               try clear c24b1
               try clear c27
               try clear c28
               try clear c30
               try clear c30b0
               try clear c30b1
               try clear c31
               try clear c31b0
               try clear c31b1
               try clear c34
               try clear c36
               try clear c36b0
               try clear c37
               try clear c37b0
               try clear c39
               try clear c43
               try clear c44
               try clear c46
               try clear c46b0
               try clear c46b1
               try clear c47
               try clear c48
               try clear hcz18_0
               try clear hcz18_1
               try clear hcz18_2
               try clear hcz29_0
               try clear hcz29_1
               try clear hcz29_2
               try clear hcz35_0
               try clear hcz35_1
               try clear hcz35_2
               try clear hcz45_0
               try clear hcz45_1
               try clear hcz49_0
               try clear hcz49_1
               try clear hcz5_0
               try clear hcz5_1
               try clear hcz5_2
               try clear hfz18_0
               try clear hfz18_1
               try clear hfz18_2
               try clear hfz29_0
               try clear hfz29_1
               try clear hfz29_2
               try clear hfz35_0
               try clear hfz35_1
               try clear hfz35_2
               try clear hfz45_0
               try clear hfz45_1
               try clear hfz49_0
               try clear hfz49_1
               try clear hfz5_0
               try clear hfz5_1
               try clear hfz5_2
               try clear hx159_0
               try clear hx160_0
               try clear hx161_0
               try clear hx164_0
               try clear p1
               try clear p15
               try clear p159
               try clear p16
               try clear p160
               try clear p161
               try clear p164
               try clear p2
               try clear p6
               try clear q1
               try clear q15
               try clear q159
               try clear q16
               try clear q160
               try clear q161
               try clear q164
               obtain ⟨kq, x77_39, rfl, HA, HJ39, HO_6, HO_159001, BK152, BK158, BK168, HB⟩ := hcut
               cases kq with
               | zero => exact absurd HA.1 (by simp [spec_GetResp.j2])
               | succ kj39 =>
                have H := HA.1
                clear HA
                simp only [spec_GetResp.j2] at H
                by_cases c50 : x77_39 = true
                ·subst c50
                 have H1 : ((spec_ParseNum.f kj39 t166 400).bind fun bt169 => (if bt169.2 = true then (spec_GetResp.l0 kj39 l0 t153 t155 bt169.1 (wrap64 (x9_2 + 1)) t162 x159001_2 (⟨#[]⟩ : ByteArray)) else (some (0, ([] : List (S88)), (⟨#[]⟩ : ByteArray), 0, false)))) = some (r1, r2, r3, r4, r5) := by rw [if_pos rfl] at H; exact H
                 clear H
                 have H := H1
                 clear H1
                 replace H := Option.bind_eq_some_iff.mp H
                 obtain ⟨⟨t169, t170⟩, A510, H⟩ := H
                 replace H : (if t170 = true then (spec_GetResp.l0 kj39 l0 t153 t155 t169 (wrap64 (x9_2 + 1)) t162 x159001_2 (⟨#[]⟩ : ByteArray)) else (some (0, ([] : List (S88)), (⟨#[]⟩ : ByteArray), 0, false))) = some (r1, r2, r3, r4, r5) := H
                 have A51 := Aside0.mk A510
                 clear A510
                 by_cases c52 : t170 = true
                 ·subst c52
                  have H1 : (spec_GetResp.l0 kj39 l0 t153 t155 t169 (wrap64 (x9_2 + 1)) t162 x159001_2 (⟨#[]⟩ : ByteArray)) = some (r1, r2, r3, r4, r5) := by rw [if_pos rfl] at H; exact H
                  clear H
                  have H := H1
                  clear H1
                  have H' := Aside0.mk H
                  clear H
                  have hnb53 := NB168_152.1
                  have hnc53 := NB152_168.1
                  have hnb54 := NB168_158.1
                  have hnc54 := NB158_168.1
                  have hcz55_0 : wc.cell? ⟨gb168, 0, none⟩ = some (.string t165) := (bc_ BK168.1 0).trans rfl
                  have hcz55_1 : wc.cell? ⟨gb168, 1, none⟩ = some (.string t166) := (bc_ BK168.1 1).trans rfl
                  have hfz55_0 := bF_ BK168.1 0
                  have hfz55_1 := bF_ BK168.1 1
                  go_wp2_with (first | ((with_reducible refine gate_callee (f := 73) rfl ?_); refine goesL_ (some 81) rfl rfl Tryz.func73 (by kernel_rfl) rfl #[.string t166, .int .i64 400] rfl (by (try simp only [List.map_toArray, List.map_cons, List.map_nil]); first | done | rfl | (simp only [List.length_drop, List.length_take]; rfl)) ?_; (with_reducible refine (spec_ParseNum.calls kj39 t166 400 t169 true _ A51.1).mono ?_); rintro e w' ⟨rfl, ⟨nd, rfl⟩⟩; refine ⟨_, rfl, ?_⟩))
                  go_roundg kj39
                  case measure => have := HJ9.1; have := HK2.1; have := HJ39.1; omega
                  case rel => exact ⟨(t169), (wrap64 (x9_2 + 1)), (x153000_2), (x153002_2), (x159001_2), (u159001), (by first | rfl | (simp; done) | (simp [*]; done) | (simp [empty_ne, *]; done)), (by first | rfl | (simp; done) | (simp [*]; done) | (simp [empty_ne, *]; done)), H', ⟨by have := HJ9.1; have := HK2.1; have := HJ39.1; omega⟩, ⟨by (with_reducible repeat (first | apply rA_ | apply rN_ | apply rD_)); first | exact HO_6.1 | exact Kd.R_mono HO_6.1 (fun k_ h_ e_ => h_ (e_.trans (ob_len _ _ _ _ _)))⟩, ⟨by (with_reducible repeat (first | apply rA_ | apply rN_ | apply rD_)); exact Kd.R_mono HO_159001.1 (fun _ hk => trivial)⟩, ⟨by (with_reducible repeat (first | refine bN_ ?_ _ | refine bD_ ?_ | refine bA_ ?_ _)); exact BK152.1⟩, ⟨by (with_reducible repeat (first | refine bN_ ?_ _ | refine bD_ ?_ | refine bA_ ?_ _)); exact BK158.1⟩, ⟨by repeat (first | (with_reducible first | exact HB.1 | apply aB_ | apply pN_ | apply dB_ | refine sB_ ?_ GE152.1 | refine sB_ ?_ GE158.1 | refine sB_ ?_ GE168.1) | exact HB.1)⟩⟩
                 ·replace c52 := Bool.eq_false_iff.mpr c52
                  subst c52
                  have H1 : (some (0, ([] : List (S88)), (⟨#[]⟩ : ByteArray), 0, false)) = some (r1, r2, r3, r4, r5) := by rw [if_neg (show ¬ (false = true) by decide)] at H; exact H
                  clear H
                  have H := H1
                  clear H1
                  simp only [Option.some.injEq, Prod.mk.injEq] at H
                  obtain ⟨rfl, rfl, rfl, rfl, rfl⟩ := H
                  have hnb56 := NB168_152.1
                  have hnc56 := NB152_168.1
                  have hnb57 := NB168_158.1
                  have hnc57 := NB158_168.1
                  have hcz58_0 : wc.cell? ⟨gb168, 0, none⟩ = some (.string t165) := (bc_ BK168.1 0).trans rfl
                  have hcz58_1 : wc.cell? ⟨gb168, 1, none⟩ = some (.string t166) := (bc_ BK168.1 1).trans rfl
                  have hfz58_0 := bF_ BK168.1 0
                  have hfz58_1 := bF_ BK168.1 1
                  go_wp2_with (first | ((with_reducible refine gate_callee (f := 73) rfl ?_); refine goesL_ (some 81) rfl rfl Tryz.func73 (by kernel_rfl) rfl #[.string t166, .int .i64 400] rfl (by (try simp only [List.map_toArray, List.map_cons, List.map_nil]); first | done | rfl | (simp only [List.length_drop, List.length_take]; rfl)) ?_; (with_reducible refine (spec_ParseNum.calls kj39 t166 400 t169 false _ A51.1).mono ?_); rintro e w' ⟨rfl, ⟨nd, rfl⟩⟩; refine ⟨_, rfl, ?_⟩; (try (rw [drewN_self wc]; generalize hq_ : World.drewN wc _ = wc; have n0_ : Aside0 (Kd.R k88 88 wc w.heap.size (fun k_ => k_ ≠ gb168) u159001 x159001_2) := ⟨by rw [← hq_]; exact (by (with_reducible repeat (first | apply rA_ | apply rN_ | apply rD_)); exact HO_159001.1)⟩; have n1_ : Aside0 (Kd.R Kd.string 9 wc w.heap.size (fun _ => True) (.slice (some ad161) t155.length co33) t155) := ⟨by rw [← hq_]; exact (by (with_reducible repeat (first | apply rA_ | apply rN_ | apply rD_)); exact HO_6.1)⟩; have n2_ : Aside0 (wc.heap[gb152]? = some (.cells #[.int .i64 x153000_2, .slice none 0 0, .string x153002_2] 25 (0, 0))) := ⟨by rw [← hq_]; exact (by (with_reducible repeat (first | refine bN_ ?_ _ | refine bD_ ?_ | refine bA_ ?_ _)); exact BK152.1)⟩; have n3_ : Aside0 (wc.heap[gb158]? = some (.cells #[.int .i64 t162, u159001, .string (⟨#[]⟩ : ByteArray)] 25 (0, 0))) := ⟨by rw [← hq_]; exact (by (with_reducible repeat (first | refine bN_ ?_ _ | refine bD_ ?_ | refine bA_ ?_ _)); exact BK158.1)⟩; have n4_ : Aside0 (wc.heap[gb168]? = some (.cells #[.string t165, .string t166] 88 (0, 0))) := ⟨by rw [← hq_]; exact (by (with_reducible repeat (first | refine bN_ ?_ _ | refine bD_ ?_ | refine bA_ ?_ _)); exact BK168.1)⟩; have n5_ : Aside0 (Below w.heap.size w wc) := ⟨by rw [← hq_]; exact (by repeat (first | (with_reducible first | exact HB.1 | apply aB_ | apply pN_ | apply dB_ | refine sB_ ?_ GE152.1 | refine sB_ ?_ GE158.1 | refine sB_ ?_ GE168.1) | exact HB.1))⟩; clear HO_159001 HO_6 BK152 BK158 BK168 HB hq_; have HO_159001 := n0_; have HO_6 := n1_; have BK152 := n2_; have BK158 := n3_; have BK168 := n4_; have HB := n5_; clear n0_ n1_ n2_ n3_ n4_ n5_)); have hnb59 := NB152_158.1; have hnc59 := NB158_152.1; have hcz60_0 : wc.cell? ⟨gb152, 0, none⟩ = some (.int .i64 x153000_2) := (bc_ BK152.1 0).trans rfl; have hcz60_1 : wc.cell? ⟨gb152, 1, none⟩ = some (.slice none 0 0) := (bc_ BK152.1 1).trans rfl; have hcz60_2 : wc.cell? ⟨gb152, 2, none⟩ = some (.string x153002_2) := (bc_ BK152.1 2).trans rfl; have hfz60_0 := bF_ BK152.1 0; have hfz60_1 := bF_ BK152.1 1; have hfz60_2 := bF_ BK152.1 2))
                  refine bodyPost_ret (results_ctt rfl _ _ gb152 25 #[.int .i64 0, .slice none 0 0, .string (⟨#[]⟩ : ByteArray)] (0, 0) _ rfl (by (with_reducible repeat (first | refine bN_ ?_ _ | refine bD_ ?_ | refine bA_ ?_ _)); refine blk_put (cs := #[.int .i64 0, .slice none 0 0, .string x153002_2]) ?_ 2 _ rfl; (with_reducible repeat (first | refine bN_ ?_ _ | refine bD_ ?_ | refine bA_ ?_ _)); refine blk_put (cs := #[.int .i64 0, .slice none 0 0, .string x153002_2]) ?_ 1 _ rfl; (with_reducible repeat (first | refine bN_ ?_ _ | refine bD_ ?_ | refine bA_ ?_ _)); refine blk_put (cs := #[.int .i64 x153000_2, .slice none 0 0, .string x153002_2]) ?_ 0 _ rfl; (with_reducible repeat (first | refine bN_ ?_ _ | refine bD_ ?_ | refine bA_ ?_ _)); exact BK152.1) Tryz.underlying25 rfl (by kernel_rfl)) rfl ?_
                  exact ⟨_, by first | rfl | (simp [errW_none, errW_some] <;> rfl) | (simp only [← hji6]; first | rfl | (simp [errW_none, errW_some] <;> rfl)) | (simp [*, errW_none, errW_some] <;> rfl), by first | exact Kd.R_nil _ _ _ _ _ | exact Kd.N_nil _ _ _ _ _ | exact Kd.V_nil _ _ _ _ _ | exact Kd.Q_nil _ _ _ _ _ | exact Kd.S_nil _ _ _ _ _, by repeat (first | (with_reducible first | exact HB.1 | apply aB_ | apply pN_ | apply dB_ | refine sB_ ?_ GE152.1 | refine sB_ ?_ GE158.1 | refine sB_ ?_ GE168.1) | exact HB.1)⟩
                ·replace c50 := Bool.eq_false_iff.mpr c50
                 subst c50
                 have H1 : (if x159001_2.length < 4398046511104 then (if true = true then (spec_GetResp.l0 kj39 l0 t153 t155 x8_2 (wrap64 (x9_2 + 1)) t162 (x159001_2 ++ [(⟨t165, t166⟩ : S88)]) (⟨#[]⟩ : ByteArray)) else (some (0, ([] : List (S88)), (⟨#[]⟩ : ByteArray), 0, false))) else (none)) = some (r1, r2, r3, r4, r5) := by rw [if_neg (show ¬ (false = true) by decide)] at H; exact H
                 clear H
                 have H := H1
                 clear H1
                 by_cases c61 : x159001_2.length < 4398046511104
                 ·rw [if_pos c61] at H
                  have LMc61 := Aside0.mk c61
                  clear c61
                  obtain ⟨y171, hy171⟩ : ∃ y_ : List (S88), y_ = (x159001_2 ++ [(⟨t165, t166⟩ : S88)]) := ⟨_, rfl⟩
                  replace H : (if true = true then (spec_GetResp.l0 kj39 l0 t153 t155 x8_2 (wrap64 (x9_2 + 1)) t162 y171 (⟨#[]⟩ : ByteArray)) else (some (0, ([] : List (S88)), (⟨#[]⟩ : ByteArray), 0, false))) = some (r1, r2, r3, r4, r5) := by first | (rw [hy171]; with_reducible exact H) | (have H2_ := (Option.bind_some _ _).symm.trans H; rw [hy171]; with_reducible exact H2_) | (have H2_ := (Option.bind_some _ _).symm.trans H; with_reducible exact H2_) | with_reducible exact H | (rw [hy171]; exact H) | exact H
                  have Ny171 := Aside0.mk hy171
                  clear hy171
                  by_cases c62 : true = true
                  ·skip
                   have H1 : (spec_GetResp.l0 kj39 l0 t153 t155 x8_2 (wrap64 (x9_2 + 1)) t162 y171 (⟨#[]⟩ : ByteArray)) = some (r1, r2, r3, r4, r5) := by rw [if_pos rfl] at H; exact H
                   clear H
                   have H := H1
                   clear H1
                   have H' := Aside0.mk H
                   clear H
                   have hnb63 := NB158_152.1
                   have hnc63 := NB152_158.1
                   have hnb64 := NB158_168.1
                   have hnc64 := NB168_158.1
                   have hcz65_0 : wc.cell? ⟨gb158, 0, none⟩ = some (.int .i64 t162) := (bc_ BK158.1 0).trans rfl
                   have hcz65_1 : wc.cell? ⟨gb158, 1, none⟩ = some (u159001) := (bc_ BK158.1 1).trans rfl
                   have hcz65_2 : wc.cell? ⟨gb158, 2, none⟩ = some (.string (⟨#[]⟩ : ByteArray)) := (bc_ BK158.1 2).trans rfl
                   have hfz65_0 := bF_ BK158.1 0
                   have hfz65_1 := bF_ BK158.1 1
                   have hfz65_2 := bF_ BK158.1 2
                   have hnb66 := NB168_152.1
                   have hnc66 := NB152_168.1
                   have hcz67_0 : wc.cell? ⟨gb168, 0, none⟩ = some (.string t165) := (bc_ BK168.1 0).trans rfl
                   have hcz67_1 : wc.cell? ⟨gb168, 1, none⟩ = some (.string t166) := (bc_ BK168.1 1).trans rfl
                   have hfz67_0 := bF_ BK168.1 0
                   have hfz67_1 := bF_ BK168.1 1
                   go_wp2_with (first | ((with_reducible refine gate_builtin (b := .append) (xs := #[.tmp 85, .tmp 87]) rfl ?_); (try (refine gate_guard (by rfl) ?_; dsimp only)); at_builtin; refine Kd.R_append k88 (w0 := w) w.heap.size rfl (.tmp 85) (.tmp 87) 23 88 (.agg #[(.string ⟨#[]⟩), (.string ⟨#[]⟩)]) 32 rfl Tryz.underlying23 info88 rfl (by decide) (by omega) u159001 x159001_2 (⟨t165, t166⟩ : S88) [.string t165, .string t166] (fun k_ => k_ ≠ gb168) (fun _ => False) rfl rfl ?aP (fun _ hk => hk.elim) ?aF ?aO ?aB ?aS ?aL ?_; (case aP => exact k88_mkM _ _ _ (⟨t165, t166⟩ : S88)); (case aB => exact (by repeat (first | (with_reducible first | exact HB.1 | apply aB_ | apply pN_ | apply dB_ | refine sB_ ?_ GE152.1 | refine sB_ ?_ GE158.1 | refine sB_ ?_ GE168.1) | exact HB.1))); (case aF => exact (fun k_ hk => Kd.freshB (g := gb168) (o := .cells #[.string t165, .string t166] 88 (0, 0)) (by (with_reducible repeat (first | refine bN_ ?_ _ | refine bD_ ?_ | refine bA_ ?_ _)); exact BK168.1) k_ hk)); (case aO => exact (by (with_reducible repeat (first | apply rA_ | apply rN_ | apply rD_)); exact HO_159001.1)); (case aS => exact (below_size (by repeat (first | (with_reducible first | exact HB.1 | apply aB_ | apply pN_ | apply dB_ | refine sB_ ?_ GE152.1 | refine sB_ ?_ GE158.1 | refine sB_ ?_ GE168.1) | exact HB.1)))); (case aL => have := LMc61.1; omega); intro v172 w68 ho hb hg hat; rw [← Ny171.1] at ho; have n0_ := Aside0.mk (Kd.R_over' (by (with_reducible repeat (first | apply rA_ | apply rN_ | apply rD_)); exact HO_6.1) (Kd.R_typed (by (with_reducible repeat (first | apply rA_ | apply rN_ | apply rD_)); exact HO_159001.1)) (by decide) hg); have n1_ := Aside0.mk (blk_grown (g := gb152) (o := .cells #[.int .i64 x153000_2, .slice none 0 0, .string x153002_2] 25 (0, 0)) (by (with_reducible repeat (first | refine bN_ ?_ _ | refine bD_ ?_ | refine bA_ ?_ _)); exact BK152.1) hg (Kd.R_ne HO_159001.1 BK152.1 (by decide))); have n2_ := Aside0.mk (blk_grown (g := gb158) (o := .cells #[.int .i64 t162, u159001, .string (⟨#[]⟩ : ByteArray)] 25 (0, 0)) (by (with_reducible repeat (first | refine bN_ ?_ _ | refine bD_ ?_ | refine bA_ ?_ _)); exact BK158.1) hg (Kd.R_ne HO_159001.1 BK158.1 (by decide))); have n3_ := Aside0.mk (blk_grown (g := gb168) (o := .cells #[.string t165, .string t166] 88 (0, 0)) (by (with_reducible repeat (first | refine bN_ ?_ _ | refine bD_ ?_ | refine bA_ ?_ _)); exact BK168.1) hg (Kd.R_away HO_159001.1 (fun _ hk => hk))); have n4_ := Aside0.mk (hb); have n5_ := Aside0.mk (ho); clear HO_6 BK152; clear BK158 BK168; clear HB HO_159001; have HO_6 := n0_; have BK152 := n1_; have BK158 := n2_; have BK168 := n3_; have HB := n4_; have HO173 := n5_; clear n0_ n1_ n2_ n3_ n4_ n5_; clear ho hb hg hat; obtain ⟨Ao69, co69, eo69⟩ := Kd.R_slice HO173.1; subst eo69; have hcz70_0 : w68.cell? ⟨gb158, 0, none⟩ = some (.int .i64 t162) := (bc_ BK158.1 0).trans rfl; have hcz70_1 : w68.cell? ⟨gb158, 1, none⟩ = some (u159001) := (bc_ BK158.1 1).trans rfl; have hcz70_2 : w68.cell? ⟨gb158, 2, none⟩ = some (.string (⟨#[]⟩ : ByteArray)) := (bc_ BK158.1 2).trans rfl; have hfz70_0 := bF_ BK158.1 0; have hfz70_1 := bF_ BK158.1 1; have hfz70_2 := bF_ BK158.1 2))
                   go_roundg kj39
                   case measure => have := HJ9.1; have := HK2.1; have := HJ39.1; omega
                   case rel => exact ⟨(x8_2), (wrap64 (x9_2 + 1)), (x153000_2), (x153002_2), (y171), (.slice Ao69 y171.length co69), (by first | rfl | (simp; done) | (simp [*]; done) | (simp [empty_ne, *]; done)), (by first | rfl | (simp; done) | (simp [*]; done) | (simp [empty_ne, *]; done)), H', ⟨by have := HJ9.1; have := HK2.1; have := HJ39.1; omega⟩, ⟨by (with_reducible repeat (first | apply rA_ | apply rN_ | apply rD_)); exact Kd.R_mono (rF_ (p := ⟨gb158, 1, none⟩) (Kd.R_types HO_6.1 BK158.1 (by decide)) (fun _ hk => hk.2) (.slice Ao69 y171.length co69)) (fun _ hk => trivial)⟩, ⟨by (with_reducible repeat (first | apply rA_ | apply rN_ | apply rD_)); exact Kd.R_mono (rF_ (p := ⟨gb158, 1, none⟩) (Kd.R_types HO173.1 BK158.1 (by decide)) (fun _ hk => hk.2) (.slice Ao69 y171.length co69)) (fun _ hk => trivial)⟩, ⟨by (with_reducible repeat (first | refine bN_ ?_ _ | refine bD_ ?_ | refine bA_ ?_ _)); refine blk_far ?_ NB152_158.1 _; (with_reducible repeat (first | refine bN_ ?_ _ | refine bD_ ?_ | refine bA_ ?_ _)); exact BK152.1⟩, ⟨by (with_reducible repeat (first | refine bN_ ?_ _ | refine bD_ ?_ | refine bA_ ?_ _)); refine blk_put (cs := #[.int .i64 t162, u159001, .string (⟨#[]⟩ : ByteArray)]) ?_ 1 _ rfl; (with_reducible repeat (first | refine bN_ ?_ _ | refine bD_ ?_ | refine bA_ ?_ _)); exact BK158.1⟩, ⟨by repeat (first | (with_reducible first | exact HB.1 | apply aB_ | apply pN_ | apply dB_ | refine sB_ ?_ GE152.1 | refine sB_ ?_ GE158.1 | refine sB_ ?_ GE168.1) | exact HB.1)⟩⟩
                  ·exact absurd rfl c62
                 ·rw [if_neg c61] at H
                  exact absurd H (by simp)
             ·replace c39 := Bool.eq_false_iff.mpr c39
              subst c39
              have H1 : (some (0, ([] : List (S88)), (⟨#[]⟩ : ByteArray), 0, false)) = some (r1, r2, r3, r4, r5) := by rw [if_neg (show ¬ (false = true) by decide)] at H; exact H
              clear H
              have H := H1
              clear H1
              simp only [Option.some.injEq, Prod.mk.injEq] at H
              obtain ⟨rfl, rfl, rfl, rfl, rfl⟩ := H
              have p164 : 0 ≤ (x9_2 : Int) := of_decide_eq_true (by first | (with_reducible assumption) | assumption)
              have q164 : x9_2 < (t155.length : Int) := of_decide_eq_true (by first | (with_reducible assumption) | assumption)
              obtain ⟨ad164, e164, hx164_0⟩ := Kd.at_string (Kd.R_reads' HO_6.1).2.2 x9_2 p164 q164
              obtain rfl : ad161 = ad164 := (by injection e164)
              replace p164 := eq_true p164
              replace q164 := eq_true q164
              go_wp2_with (first | ((with_reducible refine gate_callee (f := 74) rfl ?_); refine goesL_ (some 62) rfl rfl Tryz.func74 (by kernel_rfl) rfl #[.string (rdOf ByteArray.empty t155 x9_2)] rfl (by (try simp only [List.map_toArray, List.map_cons, List.map_nil]); first | done | rfl | (simp only [List.length_drop, List.length_take]; rfl)) ?_; (with_reducible refine (spec_l5Head.calls k2 (rdOf ByteArray.empty t155 x9_2) t165 t166 false _ A38.1).mono ?_); rintro e w80 ⟨rfl, hb⟩; refine ⟨_, rfl, ?_⟩; have n0_ := Aside0.mk (Kd.R_below (by (with_reducible repeat (first | apply rA_ | apply rN_ | apply rD_)); exact HO_6.1) hb); have n1_ := Aside0.mk (Kd.R_below (by (with_reducible repeat (first | apply rA_ | apply rN_ | apply rD_)); exact HO_159001.1) hb); have n2_ := Aside0.mk (bB_ (g := gb152) (o := .cells #[.int .i64 x153000_2, .slice none 0 0, .string x153002_2] 25 (0, 0)) (by (with_reducible repeat (first | refine bN_ ?_ _ | refine bD_ ?_ | refine bA_ ?_ _)); exact BK152.1) hb); have n3_ := Aside0.mk (bB_ (g := gb158) (o := .cells #[.int .i64 t162, u159001, .string (⟨#[]⟩ : ByteArray)] 25 (0, 0)) (by (with_reducible repeat (first | refine bN_ ?_ _ | refine bD_ ?_ | refine bA_ ?_ _)); exact BK158.1) hb); have n4_ := Aside0.mk (below_step (by repeat (first | (with_reducible first | exact HB.1 | apply aB_ | apply pN_ | apply dB_ | refine sB_ ?_ GE152.1 | refine sB_ ?_ GE158.1) | exact HB.1)) hb); clear HO_6 HO_159001; clear BK152 BK158 HB; have HO_6 := n0_; have HO_159001 := n1_; have BK152 := n2_; have BK158 := n3_; have HB := n4_; clear n0_ n1_ n2_ n3_ n4_; (try clear hb); (try clear hb2); (try clear hk); (try clear hi)) | ((with_reducible refine gate_dst (N := 10) rfl ?_); (try (refine gate_guard (by rfl) ?_; dsimp only)); refine box_event ?hg (N := 10) ?hd (cs := #[.string (⟨#[]⟩ : ByteArray), .string (⟨#[]⟩ : ByteArray)]) (t := 88) ?hr ?_; (case hd => rfl); (case hg => rfl); (case hr => first | (go_simp; done) | (go_simp; rfl)); intro gb168 hg w81 hbox hb; have n0_ := Aside0.mk (Kd.R_below (by (with_reducible repeat (first | apply rA_ | apply rN_ | apply rD_)); exact HO_6.1) hb); have n1_ := Aside0.mk (Kd.R_below (Kd.R_elderB (by (with_reducible repeat (first | apply rA_ | apply rN_ | apply rD_)); exact HO_159001.1) gb168 (Nat.le_of_eq hg.symm)) hb); have n2_ := Aside0.mk (bB_ (g := gb152) (o := .cells #[.int .i64 x153000_2, .slice none 0 0, .string x153002_2] 25 (0, 0)) (by (with_reducible repeat (first | refine bN_ ?_ _ | refine bD_ ?_ | refine bA_ ?_ _)); exact BK152.1) hb); have n3_ := Aside0.mk (bB_ (g := gb158) (o := .cells #[.int .i64 t162, u159001, .string (⟨#[]⟩ : ByteArray)] 25 (0, 0)) (by (with_reducible repeat (first | refine bN_ ?_ _ | refine bD_ ?_ | refine bA_ ?_ _)); exact BK158.1) hb); have n4_ := Aside0.mk (below_step (by repeat (first | (with_reducible first | exact HB.1 | apply aB_ | apply pN_ | apply dB_ | refine sB_ ?_ GE152.1 | refine sB_ ?_ GE158.1) | exact HB.1)) hb); have n5_ := Aside0.mk (hbox); have n6_ := Aside0.mk ((by rw [hg]; exact (below_size (by repeat (first | (with_reducible first | exact HB.1 | apply aB_ | apply pN_ | apply dB_ | refine sB_ ?_ GE152.1 | refine sB_ ?_ GE158.1) | exact HB.1))) : w.heap.size ≤ gb168)); have n7_ := Aside0.mk ((by rw [hg]; exact (below_size (by repeat (first | (with_reducible first | exact HB.1 | apply aB_ | apply pN_ | apply dB_ | refine sB_ ?_ GE152.1 | refine sB_ ?_ GE158.1) | exact HB.1))) : w.heap.size ≤ gb168)); have n8_ := Aside0.mk ((by rw [hg]; exact Nat.ne_of_lt (blk_lt (g := gb152) (o := .cells #[.int .i64 x153000_2, .slice none 0 0, .string x153002_2] 25 (0, 0)) (by (with_reducible repeat (first | refine bN_ ?_ _ | refine bD_ ?_ | refine bA_ ?_ _)); exact BK152.1)) : gb152 ≠ gb168)); have n9_ := Aside0.mk ((by rw [hg]; exact Nat.ne_of_gt (blk_lt (g := gb152) (o := .cells #[.int .i64 x153000_2, .slice none 0 0, .string x153002_2] 25 (0, 0)) (by (with_reducible repeat (first | refine bN_ ?_ _ | refine bD_ ?_ | refine bA_ ?_ _)); exact BK152.1)) : gb168 ≠ gb152)); have n10_ := Aside0.mk ((by rw [hg]; exact Nat.ne_of_lt (blk_lt (g := gb158) (o := .cells #[.int .i64 t162, u159001, .string (⟨#[]⟩ : ByteArray)] 25 (0, 0)) (by (with_reducible repeat (first | refine bN_ ?_ _ | refine bD_ ?_ | refine bA_ ?_ _)); exact BK158.1)) : gb158 ≠ gb168)); have n11_ := Aside0.mk ((by rw [hg]; exact Nat.ne_of_gt (blk_lt (g := gb158) (o := .cells #[.int .i64 t162, u159001, .string (⟨#[]⟩ : ByteArray)] 25 (0, 0)) (by (with_reducible repeat (first | refine bN_ ?_ _ | refine bD_ ?_ | refine bA_ ?_ _)); exact BK158.1)) : gb168 ≠ gb158)); clear HO_6 HO_159001; clear BK152 BK158 HB; have HO_6 := n0_; have HO_159001 := n1_; have BK152 := n2_; have BK158 := n3_; have HB := n4_; have BK168 := n5_; have GW168 := n6_; have GE168 := n7_; have NB152_168 := n8_; have NB168_152 := n9_; have NB158_168 := n10_; have NB168_158 := n11_; clear n0_ n1_ n2_ n3_ n4_ n5_ n6_ n7_ n8_ n9_ n10_ n11_; clear hb hbox hg; have hnb82 := NB168_152.1; have hnc82 := NB152_168.1; have hnb83 := NB168_158.1; have hnc83 := NB158_168.1; have hcz84_0 : w81.cell? ⟨gb168, 0, none⟩ = some (.string (⟨#[]⟩ : ByteArray)) := (bc_ BK168.1 0).trans rfl; have hcz84_1 : w81.cell? ⟨gb168, 1, none⟩ = some (.string (⟨#[]⟩ : ByteArray)) := (bc_ BK168.1 1).trans rfl; have hfz84_0 := bF_ BK168.1 0; have hfz84_1 := bF_ BK168.1 1; have hnb85 := NB152_158.1; have hnc85 := NB158_152.1; have hcz86_0 : w81.cell? ⟨gb152, 0, none⟩ = some (.int .i64 x153000_2) := (bc_ BK152.1 0).trans rfl; have hcz86_1 : w81.cell? ⟨gb152, 1, none⟩ = some (.slice none 0 0) := (bc_ BK152.1 1).trans rfl; have hcz86_2 : w81.cell? ⟨gb152, 2, none⟩ = some (.string x153002_2) := (bc_ BK152.1 2).trans rfl; have hfz86_0 := bF_ BK152.1 0; have hfz86_1 := bF_ BK152.1 1; have hfz86_2 := bF_ BK152.1 2))
              refine bodyPost_ret (results_ctt rfl _ _ gb152 25 #[.int .i64 0, .slice none 0 0, .string (⟨#[]⟩ : ByteArray)] (0, 0) _ rfl (by (with_reducible repeat (first | refine bN_ ?_ _ | refine bD_ ?_ | refine bA_ ?_ _)); refine blk_put (cs := #[.int .i64 0, .slice none 0 0, .string x153002_2]) ?_ 2 _ rfl; (with_reducible repeat (first | refine bN_ ?_ _ | refine bD_ ?_ | refine bA_ ?_ _)); refine blk_put (cs := #[.int .i64 0, .slice none 0 0, .string x153002_2]) ?_ 1 _ rfl; (with_reducible repeat (first | refine bN_ ?_ _ | refine bD_ ?_ | refine bA_ ?_ _)); refine blk_put (cs := #[.int .i64 x153000_2, .slice none 0 0, .string x153002_2]) ?_ 0 _ rfl; (with_reducible repeat (first | refine bN_ ?_ _ | refine bD_ ?_ | refine bA_ ?_ _)); refine blk_far ?_ NB152_168.1 _; (with_reducible repeat (first | refine bN_ ?_ _ | refine bD_ ?_ | refine bA_ ?_ _)); refine blk_far ?_ NB152_168.1 _; (with_reducible repeat (first | refine bN_ ?_ _ | refine bD_ ?_ | refine bA_ ?_ _)); exact BK152.1) Tryz.underlying25 rfl (by kernel_rfl)) rfl ?_
              exact ⟨_, by first | rfl | (simp [errW_none, errW_some] <;> rfl) | (simp only [← hji6]; first | rfl | (simp [errW_none, errW_some] <;> rfl)) | (simp [*, errW_none, errW_some] <;> rfl), by first | exact Kd.R_nil _ _ _ _ _ | exact Kd.N_nil _ _ _ _ _ | exact Kd.V_nil _ _ _ _ _ | exact Kd.Q_nil _ _ _ _ _ | exact Kd.S_nil _ _ _ _ _, by repeat (first | (with_reducible first | exact HB.1 | apply aB_ | apply pN_ | apply dB_ | refine sB_ ?_ GE152.1 | refine sB_ ?_ GE158.1 | refine sB_ ?_ GE168.1) | exact HB.1)⟩
            ·rw [if_neg c37] at H
             exact absurd H (by simp)
           ·rw [if_neg c36] at H
            have c36b0 : decide (x9_2 < (t155.length : Int)) = false := decide_eq_false c36
            clear c36
            have HC87 := Aside0.mk H
            clear H
            go_upto_region 21 with (fail)
            go_cut [102] (fun v102 wc => ∃ (kq : Nat) (x102_86 : Bool), v102 = .bool x102_86 ∧ Aside0 (spec_GetResp.j3 kq l0 t153 x8_2 x102_86 t162 x159001_2 (⟨#[]⟩ : ByteArray) = some (r1, r2, r3, r4, r5)) ∧ Aside0 (kq ≤ k2) ∧ Aside0 (Kd.R k88 88 wc w.heap.size (fun _ => True) u159001 x159001_2) ∧ Aside0 (wc.heap[gb152]? = some (.cells #[.int .i64 x153000_2, (.slice none 0 0), .string x153002_2] 25 (0, 0))) ∧ Aside0 (wc.heap[gb158]? = some (.cells #[.int .i64 t162, u159001, .string (⟨#[]⟩ : ByteArray)] 25 (0, 0))) ∧ Aside0 (Below w.heap.size w wc))
            case first =>
             have H := HC87.1
             clear HC87
             by_cases c88 : x8_2 < 0
             ·rw [if_pos c88] at H
              have c88b0 : decide (x8_2 < 0) = true := decide_eq_true c88
              clear c88
              (first | rw [c88b0] | (simp only [i64_w, i32_w]; rw [c88b0]) | skip)
              have H' := Aside0.mk H
              clear H
              go_wp2
              go_meet
              case rel => exact ⟨_, (true), (by first | rfl | (simp; done) | (simp [*]; done) | (simp [empty_ne, *]; done)), H', ⟨by have := HJ9.1; have := HK2.1; first | omega | exact Nat.le_refl _⟩, ⟨by (with_reducible repeat (first | apply rA_ | apply rN_ | apply rD_)); first | exact HO_159001.1 | exact Kd.R_mono HO_159001.1 (fun k_ h_ e_ => h_ (e_.trans (ob_len _ _ _ _ _)))⟩, ⟨by (with_reducible repeat (first | refine bN_ ?_ _ | refine bD_ ?_ | refine bA_ ?_ _)); exact BK152.1⟩, ⟨by (with_reducible repeat (first | refine bN_ ?_ _ | refine bD_ ?_ | refine bA_ ?_ _)); exact BK158.1⟩, ⟨by repeat (first | (with_reducible first | exact HB.1 | apply aB_ | apply pN_ | apply dB_ | refine sB_ ?_ GE152.1 | refine sB_ ?_ GE158.1) | exact HB.1)⟩⟩
             ·rw [if_neg c88] at H
              have c88b0 : decide (x8_2 < 0) = false := decide_eq_false c88
              clear c88
              (first | rw [c88b0] | (simp only [i64_w, i32_w]; rw [c88b0]) | skip)
              have H' := Aside0.mk H
              clear H
              go_wp2
              go_meet
              case rel => exact ⟨_, (decide (x8_2 > (wrap64 ((l0.length : Int) - t153)))), (by first | rfl | (simp; done) | (simp [*]; done) | (simp [empty_ne, *]; done)), H', ⟨by have := HJ9.1; have := HK2.1; first | omega | exact Nat.le_refl _⟩, ⟨by (with_reducible repeat (first | apply rA_ | apply rN_ | apply rD_)); first | exact HO_159001.1 | exact Kd.R_mono HO_159001.1 (fun k_ h_ e_ => h_ (e_.trans (ob_len _ _ _ _ _)))⟩, ⟨by (with_reducible repeat (first | refine bN_ ?_ _ | refine bD_ ?_ | refine bA_ ?_ _)); exact BK152.1⟩, ⟨by (with_reducible repeat (first | refine bN_ ?_ _ | refine bD_ ?_ | refine bA_ ?_ _)); exact BK158.1⟩, ⟨by repeat (first | (with_reducible first | exact HB.1 | apply aB_ | apply pN_ | apply dB_ | refine sB_ ?_ GE152.1 | refine sB_ ?_ GE158.1) | exact HB.1)⟩⟩
            case rest =>
             clear HC87
             try clear c1
             try clear p1
             try clear q1
             try clear hx1
             try clear hcv1
             try clear qi1
             try clear c2
             try clear p2
             try clear c3
             try clear c3b0
             try clear c4
             try clear c5
             try clear c6
             try clear p6
             try clear c7
             try clear c7b0
             try clear c7b1
             try clear c8
             try clear c8b0
             try clear c8b1
             try clear c12
             try clear hcv13
             try clear hcv14
             try clear p15
             try clear q15
             try clear hx15
             try clear qi15
             try clear p16
             try clear q16
             try clear hx16
             try clear qi16
             try clear c17
             try clear c19
             try clear c19b0
             try clear c19b1
             try clear c21
             try clear c21b0
             try clear c21b1
             try clear c22
             try clear c22b0
             try clear c22b1
             try clear c23
             try clear c23b0
             try clear c23b1
             try clear c24
             try clear c24b0
             try clear c24b1
             try clear c27
             try clear c28
             try clear c30
             try clear c30b0
             try clear c30b1
             try clear c31
             try clear c31b0
             try clear c31b1
             try clear c34
             try clear c36
             try clear c36b0
             try clear c37
             try clear c37b0
             try clear c39
             try clear c43
             try clear c44
             try clear c46
             try clear c46b0
             try clear c46b1
             try clear c47
             try clear c48
             try clear c50
             try clear c52
             try clear c53
             try clear c54
             try clear c56
             try clear c57
             try clear c59
             try clear c61
             try clear c62
             try clear c63
             try clear c64
             try clear p64
             try clear c66
             try clear c71
             try clear c72
             try clear c73
             try clear c74
             try clear c82
             try clear c83
             try clear c85
             try clear c88
             try clear c88b0
             try clear hcz18_0
             try clear hcz18_1
             try clear hcz18_2
             try clear hcz29_0
             try clear hcz29_1
             try clear hcz29_2
             try clear hcz35_0
             try clear hcz35_1
             try clear hcz35_2
             try clear hcz45_0
             try clear hcz45_1
             try clear hcz49_0
             try clear hcz49_1
             try clear hcz55_0
             try clear hcz55_1
             try clear hcz58_0
             try clear hcz58_1
             try clear hcz5_0
             try clear hcz5_1
             try clear hcz5_2
             try clear hcz60_0
             try clear hcz60_1
             try clear hcz60_2
             try clear hcz65_0
             try clear hcz65_1
             try clear hcz65_2
             try clear hcz67_0
             try clear hcz67_1
             try clear hcz70_0
             try clear hcz70_1
             try clear hcz70_2
             try clear hcz73_0
             try clear hcz73_1
             try clear hcz73_2
             try clear hcz75_0
             try clear hcz75_1
             try clear hcz78_0
             try clear hcz78_1
             try clear hcz78_2
             try clear hcz79_0
             try clear hcz79_1
             try clear hcz79_2
             try clear hcz84_0
             try clear hcz84_1
             try clear hcz86_0
             try clear hcz86_1
             try clear hcz86_2
             try clear hfz18_0
             try clear hfz18_1
             try clear hfz18_2
             try clear hfz29_0
             try clear hfz29_1
             try clear hfz29_2
             try clear hfz35_0
             try clear hfz35_1
             try clear hfz35_2
             try clear hfz45_0
             try clear hfz45_1
             try clear hfz49_0
             try clear hfz49_1
             try clear hfz55_0
             try clear hfz55_1
             try clear hfz58_0
             try clear hfz58_1
             try clear hfz5_0
             try clear hfz5_1
             try clear hfz5_2
             try clear hfz60_0
             try clear hfz60_1
             try clear hfz60_2
             try clear hfz65_0
             try clear hfz65_1
             try clear hfz65_2
             try clear hfz67_0
             try clear hfz67_1
             try clear hfz70_0
             try clear hfz70_1
             try clear hfz70_2
             try clear hfz73_0
             try clear hfz73_1
             try clear hfz73_2
             try clear hfz75_0
             try clear hfz75_1
             try clear hfz78_0
             try clear hfz78_1
             try clear hfz78_2
             try clear hfz79_0
             try clear hfz79_1
             try clear hfz79_2
             try clear hfz84_0
             try clear hfz84_1
             try clear hfz86_0
             try clear hfz86_1
             try clear hfz86_2
             try clear hx159_0
             try clear hx160_0
             try clear hx161_0
             try clear hx164_0
             try clear p1
             try clear p15
             try clear p159
             try clear p16
             try clear p160
             try clear p161
             try clear p164
             try clear p2
             try clear p6
             try clear q1
             try clear q15
             try clear q159
             try clear q16
             try clear q160
             try clear q161
             try clear q164
             obtain ⟨kq, x102_86, rfl, HA, HJ86, HO_159001, BK152, BK158, HB⟩ := hcut
             cases kq with
             | zero => exact absurd HA.1 (by simp [spec_GetResp.j3])
             | succ kj86 =>
              have H := HA.1
              clear HA
              simp only [spec_GetResp.j3] at H
              by_cases c89 : x102_86 = true
              ·subst c89
               have H1 : (some (0, ([] : List (S88)), (⟨#[]⟩ : ByteArray), 0, false)) = some (r1, r2, r3, r4, r5) := by rw [if_pos rfl] at H; exact H
               clear H
               have H := H1
               clear H1
               simp only [Option.some.injEq, Prod.mk.injEq] at H
               obtain ⟨rfl, rfl, rfl, rfl, rfl⟩ := H
               have hnb90 := NB152_158.1
               have hnc90 := NB158_152.1
               have hcz91_0 : wc.cell? ⟨gb152, 0, none⟩ = some (.int .i64 x153000_2) := (bc_ BK152.1 0).trans rfl
               have hcz91_1 : wc.cell? ⟨gb152, 1, none⟩ = some (.slice none 0 0) := (bc_ BK152.1 1).trans rfl
               have hcz91_2 : wc.cell? ⟨gb152, 2, none⟩ = some (.string x153002_2) := (bc_ BK152.1 2).trans rfl
               have hfz91_0 := bF_ BK152.1 0
               have hfz91_1 := bF_ BK152.1 1
               have hfz91_2 := bF_ BK152.1 2
               go_wp2
               refine bodyPost_ret (results_ctt rfl _ _ gb152 25 #[.int .i64 0, .slice none 0 0, .string (⟨#[]⟩ : ByteArray)] (0, 0) _ rfl (by (with_reducible repeat (first | refine bN_ ?_ _ | refine bD_ ?_ | refine bA_ ?_ _)); refine blk_put (cs := #[.int .i64 0, .slice none 0 0, .string x153002_2]) ?_ 2 _ rfl; (with_reducible repeat (first | refine bN_ ?_ _ | refine bD_ ?_ | refine bA_ ?_ _)); refine blk_put (cs := #[.int .i64 0, .slice none 0 0, .string x153002_2]) ?_ 1 _ rfl; (with_reducible repeat (first | refine bN_ ?_ _ | refine bD_ ?_ | refine bA_ ?_ _)); refine blk_put (cs := #[.int .i64 x153000_2, .slice none 0 0, .string x153002_2]) ?_ 0 _ rfl; (with_reducible repeat (first | refine bN_ ?_ _ | refine bD_ ?_ | refine bA_ ?_ _)); exact BK152.1) Tryz.underlying25 rfl (by kernel_rfl)) rfl ?_
               exact ⟨_, by first | rfl | (simp [errW_none, errW_some] <;> rfl) | (simp only [← hji6]; first | rfl | (simp [errW_none, errW_some] <;> rfl)) | (simp [*, errW_none, errW_some] <;> rfl), by first | exact Kd.R_nil _ _ _ _ _ | exact Kd.N_nil _ _ _ _ _ | exact Kd.V_nil _ _ _ _ _ | exact Kd.Q_nil _ _ _ _ _ | exact Kd.S_nil _ _ _ _ _, by repeat (first | (with_reducible first | exact HB.1 | apply aB_ | apply pN_ | apply dB_ | refine sB_ ?_ GE152.1 | refine sB_ ?_ GE158.1) | exact HB.1)⟩
              ·replace c89 := Bool.eq_false_iff.mpr c89
               subst c89
               have H1 : (if 0 ≤ t153 then (if t153 ≤ (wrap64 (t153 + x8_2)) then (if (wrap64 (t153 + x8_2)) ≤ (l0.length : Int) then ((spec_PutResp.f kj86 t162 x159001_2 (strOfNums ((l0.take ((wrap64 (t153 + x8_2)) : Int).toNat).drop (t153 : Int).toNat))).bind fun t175 => (if 0 ≤ (wrap64 (t153 + x8_2)) then (if (strOfNums t175).toList = (strOfNums (l0.take ((wrap64 (t153 + x8_2)) : Int).toNat)).toList then ((spec_PutResp.f kj86 t162 x159001_2 (strOfNums ((l0.take ((wrap64 (t153 + x8_2)) : Int).toNat).drop (t153 : Int).toNat))).bind fun t179 => (if (t179.length : Int) = 0 then (some (0, ([] : List (S88)), (⟨#[]⟩ : ByteArray), 0, false)) else (some (t162, x159001_2, strOfNums ((l0.take ((wrap64 (t153 + x8_2)) : Int).toNat).drop (t153 : Int).toNat), wrap64 (t153 + x8_2), true)))) else (some (0, ([] : List (S88)), (⟨#[]⟩ : ByteArray), 0, false))) else (none))) else (none)) else (none)) else (none)) = some (r1, r2, r3, r4, r5) := by rw [if_neg (show ¬ (false = true) by decide)] at H; exact H
               clear H
               have H := H1
               clear H1
               by_cases c92 : 0 ≤ t153
               ·rw [if_pos c92] at H
                have c92b0 := eq_true c92
                have c92b1 : decide (0 ≤ t153) = true := decide_eq_true c92
                clear c92
                by_cases c93 : t153 ≤ (wrap64 (t153 + x8_2))
                ·rw [if_pos c93] at H
                 have c93b0 := eq_true c93
                 have c93b1 : decide (t153 ≤ (wrap64 (t153 + x8_2))) = true := decide_eq_true c93
                 by_cases c94 : (wrap64 (t153 + x8_2)) ≤ (l0.length : Int)
                 ·rw [if_pos c94] at H
                  have c94b0 := eq_true c94
                  have c94b1 : decide ((wrap64 (t153 + x8_2)) ≤ (l0.length : Int)) = true := decide_eq_true c94
                  replace H := Option.bind_eq_some_iff.mp H
                  obtain ⟨t175, A950, H⟩ := H
                  replace H : (if 0 ≤ (wrap64 (t153 + x8_2)) then (if (strOfNums t175).toList = (strOfNums (l0.take ((wrap64 (t153 + x8_2)) : Int).toNat)).toList then ((spec_PutResp.f kj86 t162 x159001_2 (strOfNums ((l0.take ((wrap64 (t153 + x8_2)) : Int).toNat).drop (t153 : Int).toNat))).bind fun t179 => (if (t179.length : Int) = 0 then (some (0, ([] : List (S88)), (⟨#[]⟩ : ByteArray), 0, false)) else (some (t162, x159001_2, strOfNums ((l0.take ((wrap64 (t153 + x8_2)) : Int).toNat).drop (t153 : Int).toNat), wrap64 (t153 + x8_2), true)))) else (some (0, ([] : List (S88)), (⟨#[]⟩ : ByteArray), 0, false))) else (none)) = some (r1, r2, r3, r4, r5) := H
                  have A95 := Aside0.mk A950
                  clear A950
                  obtain ⟨ji96, hji96⟩ : ∃ j_ : Int, (wrap64 (t153 + x8_2)) = j_ := ⟨_, rfl⟩
                  replace H : (if 0 ≤ (ji96) then (if (strOfNums t175).toList = (strOfNums (l0.take ((ji96) : Int).toNat)).toList then ((spec_PutResp.f kj86 t162 x159001_2 (strOfNums ((l0.take ((ji96) : Int).toNat).drop (t153 : Int).toNat))).bind fun t179 => (if (t179.length : Int) = 0 then (some (0, ([] : List (S88)), (⟨#[]⟩ : ByteArray), 0, false)) else (some (t162, x159001_2, strOfNums ((l0.take ((ji96) : Int).toNat).drop (t153 : Int).toNat), ji96, true)))) else (some (0, ([] : List (S88)), (⟨#[]⟩ : ByteArray), 0, false))) else (none)) = some (r1, r2, r3, r4, r5) := by first | (rw [hji96] at H; exact H) | (simp only [hji96] at H ⊢; exact H)
                  (try rw [hji96] at c93b0)
                  (try rw [hji96] at c93b1)
                  (try rw [hji96] at c93)
                  (try rw [hji96] at c94b0)
                  (try rw [hji96] at c94b1)
                  (try rw [hji96] at c94)
                  (try rw [hji96] at A95)
                  have hji96w : (IntKind.i64.wrap (t153 + x8_2)) = ji96 := (i64_w _).trans hji96
                  by_cases c97 : 0 ≤ (ji96)
                  ·rw [if_pos c97] at H
                   have c97b0 := eq_true c97
                   have c97b1 : decide (0 ≤ (ji96)) = true := decide_eq_true c97
                   clear c97
                   have c98b0 := eq_true (of_decide_eq_true (by first | (with_reducible assumption) | assumption) : (ji96) ≤ (l0.length : Int))
                   by_cases c99 : (strOfNums t175).toList = (strOfNums (l0.take ((ji96) : Int).toNat)).toList
                   ·rw [if_pos c99] at H
                    have c99b0 : ((strOfNums t175).toList == (strOfNums (l0.take ((ji96) : Int).toNat)).toList) = true := beq_iff_eq.mpr c99
                    have c99b1 : ((strOfNums t175).toList != (strOfNums (l0.take ((ji96) : Int).toNat)).toList) = false := bne_eq_false_iff_eq.mpr c99
                    clear c99
                    replace H := Option.bind_eq_some_iff.mp H
                    obtain ⟨t179, A1000, H⟩ := H
                    have e_ : t175 = t179 := Option.some.inj (A95.1.symm.trans A1000)
                    subst e_
                    replace H : (if (t175.length : Int) = 0 then (some (0, ([] : List (S88)), (⟨#[]⟩ : ByteArray), 0, false)) else (some (t162, x159001_2, strOfNums ((l0.take ((ji96) : Int).toNat).drop (t153 : Int).toNat), ji96, true))) = some (r1, r2, r3, r4, r5) := H
                    have A100 := Aside0.mk A1000
                    clear A1000
                    by_cases c101 : (t175.length : Int) = 0
                    ·rw [if_pos c101] at H
                     have c101b0 : ((t175.length : Int) == 0) = true := beq_iff_eq.mpr c101
                     have c101b1 : ((t175.length : Int) != 0) = false := bne_eq_false_iff_eq.mpr c101
                     clear c101
                     simp only [Option.some.injEq, Prod.mk.injEq] at H
                     obtain ⟨rfl, rfl, rfl, rfl, rfl⟩ := H
                     obtain ⟨i0102, hi0102, _, hsz102, _⟩ := info_parts info5
                     obtain ⟨A102, hcut102, hA102, hC102⟩ := print_mid_of (P := Tryz.prog) (Value.int .u8) 0 22 5 .i64 .i64 Tryz.underlying22 hi0102 hsz102 A0 c0 l0 t153 (ji96) (of_decide_eq_true (by first | (with_reducible assumption) | assumption)) (by first | omega | exact of_decide_eq_true (by first | (with_reducible assumption) | assumption)) (of_decide_eq_true (by first | (with_reducible assumption) | assumption)) HC0.1
                     have HR174 := Aside0.mk (Kd.C_of_reads (h1 := fun _ => rfl) (hA102 _ (Kd.reads_of_C HR0.1)))
                     have HC174 := Aside0.mk hC102
                     clear hA102 hC102 hi0102 hsz102
                     have hq_ := (Kd.C_below HR174.1 HB.1)
                     rw [show ((l0.take ((ji96) : Int).toNat).drop (t153 : Int).toNat).length = ((ji96).toNat - t153.toNat) from (by rw [List.length_drop, List.length_take]; have h_ : ((ji96) : Int) ≤ (l0.length : Int) := of_decide_eq_true (by first | (with_reducible assumption) | assumption); omega)] at hq_
                     have hcv103 := Kd.C_string (P := Tryz.prog) (A := A102) (c := (c0 - t153.toNat)) Tryz.underlying22 Tryz.underlying5 Tryz.underlying9 hq_
                     have hcv104 := fun nq_ : Nat => Kd.C_string (P := Tryz.prog) (A := A102) (c := (c0 - t153.toNat)) Tryz.underlying22 Tryz.underlying5 Tryz.underlying9 (Kd.C_drewN hq_ nq_)
                     clear hq_
                     have hnb105 := NB158_152.1
                     have hnc105 := NB152_158.1
                     have hcz106_0 : wc.cell? ⟨gb158, 0, none⟩ = some (.int .i64 t162) := (bc_ BK158.1 0).trans rfl
                     have hcz106_1 : wc.cell? ⟨gb158, 1, none⟩ = some (u159001) := (bc_ BK158.1 1).trans rfl
                     have hcz106_2 : wc.cell? ⟨gb158, 2, none⟩ = some (.string (⟨#[]⟩ : ByteArray)) := (bc_ BK158.1 2).trans rfl
                     have hfz106_0 := bF_ BK158.1 0
                     have hfz106_1 := bF_ BK158.1 1
                     have hfz106_2 := bF_ BK158.1 2
                     obtain ⟨Ao107, co107, eo107⟩ := Kd.R_slice HO_159001.1
                     subst eo107
                     try go_wp2
                     have n0_ : Aside0 (Kd.R k88 88 (wc.setCell ⟨gb158, 2, none⟩ (.string (strOfNums ((l0.take ((ji96) : Int).toNat).drop (t153 : Int).toNat)))) w.heap.size (fun _ => True) (.slice Ao107 x159001_2.length co107) x159001_2) := ⟨by (with_reducible repeat (first | apply rA_ | apply rN_ | apply rD_)); exact Kd.R_mono (rF_ (p := ⟨gb158, 2, none⟩) (Kd.R_types HO_159001.1 BK158.1 (by decide)) (fun _ hk => hk.2) (.string (strOfNums ((l0.take ((ji96) : Int).toNat).drop (t153 : Int).toNat)))) (fun _ hk => trivial)⟩
                     have n1_ : Aside0 ((wc.setCell ⟨gb158, 2, none⟩ (.string (strOfNums ((l0.take ((ji96) : Int).toNat).drop (t153 : Int).toNat)))).heap[gb152]? = some (.cells #[.int .i64 x153000_2, .slice none 0 0, .string x153002_2] 25 (0, 0))) := ⟨by (with_reducible repeat (first | refine bN_ ?_ _ | refine bD_ ?_ | refine bA_ ?_ _)); refine blk_far ?_ NB152_158.1 _; (with_reducible repeat (first | refine bN_ ?_ _ | refine bD_ ?_ | refine bA_ ?_ _)); exact BK152.1⟩
                     have n2_ : Aside0 ((wc.setCell ⟨gb158, 2, none⟩ (.string (strOfNums ((l0.take ((ji96) : Int).toNat).drop (t153 : Int).toNat)))).heap[gb158]? = some (.cells #[.int .i64 t162, .slice Ao107 x159001_2.length co107, .string (strOfNums ((l0.take ((ji96) : Int).toNat).drop (t153 : Int).toNat))] 25 (0, 0))) := ⟨by (with_reducible repeat (first | refine bN_ ?_ _ | refine bD_ ?_ | refine bA_ ?_ _)); refine blk_put (cs := #[.int .i64 t162, .slice Ao107 x159001_2.length co107, .string (⟨#[]⟩ : ByteArray)]) ?_ 2 _ rfl; (with_reducible repeat (first | refine bN_ ?_ _ | refine bD_ ?_ | refine bA_ ?_ _)); exact BK158.1⟩
                     have n3_ : Aside0 (Below w.heap.size w (wc.setCell ⟨gb158, 2, none⟩ (.string (strOfNums ((l0.take ((ji96) : Int).toNat).drop (t153 : Int).toNat))))) := ⟨by repeat (first | (with_reducible first | exact HB.1 | apply aB_ | apply pN_ | apply dB_ | refine sB_ ?_ GE152.1 | refine sB_ ?_ GE158.1) | exact HB.1)⟩
                     (try clear HO_159001)
                     (try clear BK152)
                     (try clear BK158)
                     (try clear HB)
                     generalize (wc.setCell ⟨gb158, 2, none⟩ (.string (strOfNums ((l0.take ((ji96) : Int).toNat).drop (t153 : Int).toNat)))) = w108 at n0_ n1_ n2_ n3_ ⊢
                     have HO_159001 := n0_
                     have BK152 := n1_
                     have BK158 := n2_
                     have HB := n3_
                     clear n0_ n1_ n2_ n3_
                     have n0_ := Aside0.mk (rD_ HO_159001.1)
                     have n1_ := Aside0.mk (bD_ BK152.1)
                     have n2_ := Aside0.mk (bD_ BK158.1)
                     have n3_ := Aside0.mk (dB_ HB.1)
                     clear HO_159001 BK152 BK158 HB
                     have HO_159001 := n0_
                     have BK152 := n1_
                     have BK158 := n2_
                     have HB := n3_
                     clear n0_ n1_ n2_ n3_
                     obtain ⟨i0110, hi0110, _, hsz110, _⟩ := info_parts info5
                     obtain ⟨hcut110, hA110, hC110⟩ := print_take_of (P := Tryz.prog) (Value.int .u8) 0 22 5 .i64 Tryz.underlying22 hi0110 hsz110 A0 c0 l0 (ji96) (of_decide_eq_true (by first | (with_reducible assumption) | assumption)) (of_decide_eq_true (by first | (with_reducible assumption) | assumption)) HC0.1
                     have HR178 := Aside0.mk (Kd.C_of_reads (h1 := fun _ => rfl) (hA110 _ (Kd.reads_of_C HR0.1)))
                     have HC178 := Aside0.mk hC110
                     clear hA110 hC110 hi0110 hsz110
                     refine start_ (n := 16) (S := fun w' => w'.cell? ⟨gb158, 0, none⟩ = some (.int .i64 t162) ∧ w'.cell? ⟨gb158, 1, none⟩ = some (.slice Ao107 x159001_2.length co107) ∧ w'.cell? ⟨gb158, 2, none⟩ = some (.string (strOfNums ((l0.take ((ji96) : Int).toNat).drop (t153 : Int).toNat)))) (ds := []) #[false, false, false, false, false, false, false, false, false, false, false, false, false, false, false, false] (by kernel_rfl) rfl rfl ⟨(bc_ BK158.1 0).trans rfl, (bc_ BK158.1 1).trans rfl, (bc_ BK158.1 2).trans rfl⟩ (fun hHeld => ?_); refine with_tabW spec_GetResp.tab24 spec_GetResp.bits24 (fun HT_ HW_ => ?_)
                     generalize w108.drew = w109 at HO_159001 BK152 BK158 HB HR178 hHeld ⊢
                     refine pure_ (i := 3) (N := some 115) (v := ?_) (a' := ?_) #[false, false, false, true, false, false, false, false, false, false, false, false, false, false, false, false] rfl rfl (any_of HT_.1 (by kernel_rfl)) (fun _ _ _ h => h) (Or.inl ⟨by rfl, ?_⟩) ?_ ?_
                     rotate_left
                     ·intro w'
                      go_simp
                      with_reducible rfl
                     rotate_left
                     ·simp only [Act.put, List.setIfInBounds_toArray, List.set_cons_zero, List.set_cons_succ, i64_w, i32_w]
                      rfl
                     refine pure_ (i := 4) (N := some 116) (v := ?_) (a' := ?_) #[false, false, false, true, true, false, false, false, false, false, false, false, false, false, false, false] rfl rfl (any_of HT_.1 (by kernel_rfl)) (fun _ _ _ h => h) (Or.inl ⟨by rfl, ?_⟩) ?_ ?_
                     rotate_left
                     ·intro w'
                      go_simp
                      with_reducible rfl
                     rotate_left
                     ·simp only [Act.put, List.setIfInBounds_toArray, List.set_cons_zero, List.set_cons_succ, i64_w, i32_w]
                      rfl
                     refine pure_ (i := 5) (N := some 117) (v := ?_) (a' := ?_) #[false, false, false, true, true, true, false, false, false, false, false, false, false, false, false, false] rfl rfl (any_of HT_.1 (by kernel_rfl)) (fun _ _ _ h => h) (Or.inl ⟨by rfl, ?_⟩) ?_ ?_
                     rotate_left
                     ·intro w'
                      go_simp
                      with_reducible rfl
                     rotate_left
                     ·simp only [Act.put, List.setIfInBounds_toArray, List.set_cons_zero, List.set_cons_succ, i64_w, i32_w]
                      rfl
                     refine pure_ (i := 6) (N := some 118) (v := ?_) (a' := ?_) #[false, false, false, true, true, true, true, false, false, false, false, false, false, false, false, false] rfl rfl (any_of HT_.1 (by kernel_rfl)) (fun _ _ _ h => h) (Or.inl ⟨by rfl, ?_⟩) ?_ ?_
                     rotate_left
                     ·intro w'
                      go_simp
                      with_reducible rfl
                     rotate_left
                     ·simp only [Act.put, List.setIfInBounds_toArray, List.set_cons_zero, List.set_cons_succ, i64_w, i32_w]
                      rfl
                     refine pure_ (i := 7) (N := some 119) (v := ?_) (a' := ?_) #[false, false, false, true, true, true, true, true, false, false, false, false, false, false, false, false] rfl rfl (any_of HT_.1 (by kernel_rfl)) (fun _ _ _ h => h) (Or.inl ⟨by rfl, ?_⟩) ?_ ?_
                     rotate_left
                     ·intro w'
                      go_simp
                      with_reducible rfl
                     rotate_left
                     ·simp only [Act.put, List.setIfInBounds_toArray, List.set_cons_zero, List.set_cons_succ, i64_w, i32_w]
                      rfl
                     refine take_ (i := 0) (N := some 112) (v := ?_) (a' := ?_) #[true, false, false, true, true, true, true, true, false, false, false, false, false, false, false, false] rfl rfl (take_ofW HT_.1 HW_.1 (by kernel_rfl)) (fun _ _ _ h => h) (Or.inl ⟨by rfl, ?_⟩) hHeld ?_ ?_
                     rotate_left
                     ·rintro w' ⟨s0, s1, s2⟩
                      go_simp
                      with_reducible rfl
                     rotate_left
                     ·simp only [Act.put, List.setIfInBounds_toArray, List.set_cons_zero, List.set_cons_succ, i64_w, i32_w]
                      rfl
                     refine join_ (σ := Value) 7 #[true, true, true, true, true, true, true, true, true, false, false, false, false, false, false, false] (fun s_ => [(113, s_), (114, .string (strOfNums t175)), (120, .string (strOfNums (l0.take ((ji96) : Int).toNat)))]) (fun s_ w' => (w'.cell? ⟨gb158, 0, none⟩ = some (.int .i64 t162) ∧ w'.cell? ⟨gb158, 1, none⟩ = some (.slice Ao107 x159001_2.length co107) ∧ w'.cell? ⟨gb158, 2, none⟩ = some (.string (strOfNums ((l0.take ((ji96) : Int).toNat).drop (t153 : Int).toNat)))) ∧ (Kd.R (Kd.int .u8) 5 w' w.heap.size (fun _ => True) s_ t175) ∧ (Kd.R k88 88 w' w.heap.size (fun _ => True) (.slice Ao107 x159001_2.length co107) x159001_2) ∧ (w'.heap[gb152]? = some (.cells #[.int .i64 x153000_2, .slice none 0 0, .string x153002_2] 25 (0, 0))) ∧ (w'.heap[gb158]? = some (.cells #[.int .i64 t162, .slice Ao107 x159001_2.length co107, .string (strOfNums ((l0.take ((ji96) : Int).toNat).drop (t153 : Int).toNat))] 25 (0, 0))) ∧ (Below w.heap.size w w')) ?_ ?_
                     rotate_left
                     ·intro hCont
                      refine two_ (i := 1) (j := 8) (Ni := some 113) (Nj := some 120) #[true, true, false, true, true, true, true, true, false, false, false, false, false, false, false, false] #[true, false, false, true, true, true, true, true, true, false, false, false, false, false, false, false] rfl rfl rfl rfl (two_of HT_.1 (by kernel_rfl)) (by decide) (by decide) (fun K hK => ?_) (fun K hK => ?_)
                      ·skip
                       refine goes_ Tryz.func75 (by kernel_rfl) rfl #[.agg #[.int .i64 t162, .slice Ao107 x159001_2.length co107, .string (strOfNums ((l0.take ((ji96) : Int).toNat).drop (t153 : Int).toNat))]] (by rfl) rfl rfl (by (try simp only [List.map_toArray, List.map_cons, List.map_nil]); first | done | (simp only [hji96]; rfl) | rfl | (simp only [List.length_drop, List.length_take]; rfl)) ?_
                       with_reducible refine (spec_PutResp.calls kj86 t162 _ _ x159001_2 (strOfNums ((l0.take ((ji96) : Int).toNat).drop (t153 : Int).toNat)) t175 _ ?side1 ?side2 A95.1).mono ?_
                       (case side1 => repeat (first | exact (Kd.R_reads' HO_159001.1).2.2 | (with_reducible refine Kd.C_alloc ?_ _) | (with_reducible refine Kd.C_drewN ?_ _) | (with_reducible refine Kd.C_drew ?_)))
                       (case side2 => exact (Kd.R_reads' HO_159001.1).2.1)
                       rintro e w111 ⟨v176, rfl, ho0, hb⟩
                       refine ⟨_, rfl, ?_⟩
                       have n0_ := Aside0.mk (Kd.R_below (by (with_reducible repeat (first | apply rA_ | apply rN_ | apply rD_)); exact HO_159001.1) hb)
                       have n1_ := Aside0.mk (Kd.R_lower ho0 (below_size (by repeat (first | (with_reducible first | exact HB.1 | apply aB_ | apply pN_ | apply dB_ | refine sB_ ?_ GE152.1 | refine sB_ ?_ GE158.1) | exact HB.1))))
                       have n2_ := Aside0.mk (bB_ (g := gb152) (o := .cells #[.int .i64 x153000_2, .slice none 0 0, .string x153002_2] 25 (0, 0)) (by (with_reducible repeat (first | refine bN_ ?_ _ | refine bD_ ?_ | refine bA_ ?_ _)); exact BK152.1) hb)
                       have n3_ := Aside0.mk (bB_ (g := gb158) (o := .cells #[.int .i64 t162, .slice Ao107 x159001_2.length co107, .string (strOfNums ((l0.take ((ji96) : Int).toNat).drop (t153 : Int).toNat))] 25 (0, 0)) (by (with_reducible repeat (first | refine bN_ ?_ _ | refine bD_ ?_ | refine bA_ ?_ _)); exact BK158.1) hb)
                       have n4_ := Aside0.mk (below_step (by repeat (first | (with_reducible first | exact HB.1 | apply aB_ | apply pN_ | apply dB_ | refine sB_ ?_ GE152.1 | refine sB_ ?_ GE158.1) | exact HB.1)) hb)
                       clear HO_159001 BK152 BK158 HB
                       have HO_159001 := n0_
                       have HO177 := n1_
                       have BK152 := n2_
                       have BK158 := n3_
                       have HB := n4_
                       clear n0_ n1_ n2_ n3_ n4_
                       (try clear hb)
                       (try clear hb2)
                       (try clear hk)
                       (try clear hi)
                       (try clear ho0)
                       refine hK.out _ _ ⟨(bc_ BK158.1 0).trans rfl, (bc_ BK158.1 1).trans rfl, (bc_ BK158.1 2).trans rfl⟩ (fun hHeld => ?_)
                       clear hK K
                       refine norm_ (a' := ?_) ?_ ?_
                       rotate_left
                       ·show Act.put _ (some 113) _ = _
                        simp only [Act.put, List.setIfInBounds_toArray, List.set_cons_zero, List.set_cons_succ, i64_w, i32_w]
                        rfl
                       refine two_ (i := 2) (j := 8) (Ni := some 114) (Nj := some 120) #[true, true, true, true, true, true, true, true, false, false, false, false, false, false, false, false] #[true, true, false, true, true, true, true, true, true, false, false, false, false, false, false, false] rfl rfl rfl rfl (two_of HT_.1 (by kernel_rfl)) (by decide) (by decide) (fun K hK => ?_) (fun K hK => ?_)
                       ·skip
                        have hcv112 := own_string (P := Tryz.prog) Tryz.underlying22 Tryz.underlying5 Tryz.underlying9 (Kd.own_of_R HO177.1)
                        refine value_ (w1 := ?_) (v := ?_) (by rfl) rfl ?_ ?_
                        rotate_left 2
                        ·go_simp
                         constructor
                         ·rfl
                         ·rfl
                        clear hcv112
                        refine hK.out _ _ ⟨(bc_ BK158.1 0).trans rfl, (bc_ BK158.1 1).trans rfl, (bc_ BK158.1 2).trans rfl⟩ (fun hHeld => ?_)
                        clear hK K
                        refine norm_ (a' := ?_) ?_ ?_
                        rotate_left
                        ·show Act.put _ (some 114) _ = _
                         simp only [Act.put, List.setIfInBounds_toArray, List.set_cons_zero, List.set_cons_succ, i64_w, i32_w]
                         rfl
                        refine one_ (i := 8) (N := some 120) #[true, true, true, true, true, true, true, true, true, false, false, false, false, false, false, false] rfl rfl (one_of HT_.1 (by kernel_rfl)) (by decide) (fun K hK => ?_)
                        (have hq_ := (Kd.C_below HR178.1 HB.1); rw [show (l0.take ((ji96) : Int).toNat).length = (ji96).toNat from (by rw [List.length_take]; have h_ : ((ji96) : Int) ≤ (l0.length : Int) := of_decide_eq_true (by first | (with_reducible assumption) | assumption); omega)] at hq_; have hcv113 := Kd.C_string (P := Tryz.prog) (A := A0) (c := c0) Tryz.underlying22 Tryz.underlying5 Tryz.underlying9 hq_; clear hq_)
                        refine value_ (w1 := ?_) (v := ?_) (by rfl) rfl ?_ ?_
                        rotate_left 2
                        ·go_simp
                         constructor
                         ·rfl
                         ·rfl
                        clear hcv113
                        refine hK.out _ _ ⟨(bc_ BK158.1 0).trans rfl, (bc_ BK158.1 1).trans rfl, (bc_ BK158.1 2).trans rfl⟩ (fun hHeld => ?_)
                        clear hK K
                        refine norm_ (a' := ?_) ?_ ?_
                        rotate_left
                        ·show Act.put _ (some 120) _ = _
                         simp only [Act.put, List.setIfInBounds_toArray, List.set_cons_zero, List.set_cons_succ, i64_w, i32_w]
                         rfl
                        exact norm_ (by simp only [putAll, Act.put, List.setIfInBounds_toArray, List.set_cons_zero, List.set_cons_succ]) (hCont (v176) _ ⟨hHeld, (by (with_reducible repeat (first | apply rA_ | apply rN_ | apply rD_)); exact HO177.1), (by (with_reducible repeat (first | apply rA_ | apply rN_ | apply rD_)); exact HO_159001.1), (by (with_reducible repeat (first | refine bN_ ?_ _ | refine bD_ ?_ | refine bA_ ?_ _)); exact BK152.1), (by (with_reducible repeat (first | refine bN_ ?_ _ | refine bD_ ?_ | refine bA_ ?_ _)); exact BK158.1), (by repeat (first | (with_reducible first | exact HB.1 | apply aB_ | apply pN_ | apply dB_ | refine sB_ ?_ GE152.1 | refine sB_ ?_ GE158.1) | exact HB.1))⟩)
                       ·skip
                        (have hq_ := (Kd.C_below HR178.1 HB.1); rw [show (l0.take ((ji96) : Int).toNat).length = (ji96).toNat from (by rw [List.length_take]; have h_ : ((ji96) : Int) ≤ (l0.length : Int) := of_decide_eq_true (by first | (with_reducible assumption) | assumption); omega)] at hq_; have hcv112 := Kd.C_string (P := Tryz.prog) (A := A0) (c := c0) Tryz.underlying22 Tryz.underlying5 Tryz.underlying9 hq_; clear hq_)
                        refine value_ (w1 := ?_) (v := ?_) (by rfl) rfl ?_ ?_
                        rotate_left 2
                        ·go_simp
                         constructor
                         ·rfl
                         ·rfl
                        clear hcv112
                        refine hK.out _ _ ⟨(bc_ BK158.1 0).trans rfl, (bc_ BK158.1 1).trans rfl, (bc_ BK158.1 2).trans rfl⟩ (fun hHeld => ?_)
                        clear hK K
                        refine norm_ (a' := ?_) ?_ ?_
                        rotate_left
                        ·show Act.put _ (some 120) _ = _
                         simp only [Act.put, List.setIfInBounds_toArray, List.set_cons_zero, List.set_cons_succ, i64_w, i32_w]
                         rfl
                        refine one_ (i := 2) (N := some 114) #[true, true, true, true, true, true, true, true, true, false, false, false, false, false, false, false] rfl rfl (one_of HT_.1 (by kernel_rfl)) (by decide) (fun K hK => ?_)
                        have hcv113 := own_string (P := Tryz.prog) Tryz.underlying22 Tryz.underlying5 Tryz.underlying9 (Kd.own_of_R HO177.1)
                        refine value_ (w1 := ?_) (v := ?_) (by rfl) rfl ?_ ?_
                        rotate_left 2
                        ·go_simp
                         constructor
                         ·rfl
                         ·rfl
                        clear hcv113
                        refine hK.out _ _ ⟨(bc_ BK158.1 0).trans rfl, (bc_ BK158.1 1).trans rfl, (bc_ BK158.1 2).trans rfl⟩ (fun hHeld => ?_)
                        clear hK K
                        refine norm_ (a' := ?_) ?_ ?_
                        rotate_left
                        ·show Act.put _ (some 114) _ = _
                         simp only [Act.put, List.setIfInBounds_toArray, List.set_cons_zero, List.set_cons_succ, i64_w, i32_w]
                         rfl
                        exact norm_ (by simp only [putAll, Act.put, List.setIfInBounds_toArray, List.set_cons_zero, List.set_cons_succ]) (hCont (v176) _ ⟨hHeld, (by (with_reducible repeat (first | apply rA_ | apply rN_ | apply rD_)); exact HO177.1), (by (with_reducible repeat (first | apply rA_ | apply rN_ | apply rD_)); exact HO_159001.1), (by (with_reducible repeat (first | refine bN_ ?_ _ | refine bD_ ?_ | refine bA_ ?_ _)); exact BK152.1), (by (with_reducible repeat (first | refine bN_ ?_ _ | refine bD_ ?_ | refine bA_ ?_ _)); exact BK158.1), (by repeat (first | (with_reducible first | exact HB.1 | apply aB_ | apply pN_ | apply dB_ | refine sB_ ?_ GE152.1 | refine sB_ ?_ GE158.1) | exact HB.1))⟩)
                      ·skip
                       (have hq_ := (Kd.C_below HR178.1 HB.1); rw [show (l0.take ((ji96) : Int).toNat).length = (ji96).toNat from (by rw [List.length_take]; have h_ : ((ji96) : Int) ≤ (l0.length : Int) := of_decide_eq_true (by first | (with_reducible assumption) | assumption); omega)] at hq_; have hcv111 := Kd.C_string (P := Tryz.prog) (A := A0) (c := c0) Tryz.underlying22 Tryz.underlying5 Tryz.underlying9 hq_; clear hq_)
                       refine value_ (w1 := ?_) (v := ?_) (by rfl) rfl ?_ ?_
                       rotate_left 2
                       ·go_simp
                        constructor
                        ·rfl
                        ·rfl
                       clear hcv111
                       refine hK.out _ _ ⟨(bc_ BK158.1 0).trans rfl, (bc_ BK158.1 1).trans rfl, (bc_ BK158.1 2).trans rfl⟩ (fun hHeld => ?_)
                       clear hK K
                       refine norm_ (a' := ?_) ?_ ?_
                       rotate_left
                       ·show Act.put _ (some 120) _ = _
                        simp only [Act.put, List.setIfInBounds_toArray, List.set_cons_zero, List.set_cons_succ, i64_w, i32_w]
                        rfl
                       refine one_ (i := 1) (N := some 113) #[true, true, false, true, true, true, true, true, true, false, false, false, false, false, false, false] rfl rfl (one_of HT_.1 (by kernel_rfl)) (by decide) (fun K hK => ?_)
                       refine goes_ Tryz.func75 (by kernel_rfl) rfl #[.agg #[.int .i64 t162, .slice Ao107 x159001_2.length co107, .string (strOfNums ((l0.take ((ji96) : Int).toNat).drop (t153 : Int).toNat))]] (by rfl) rfl rfl (by (try simp only [List.map_toArray, List.map_cons, List.map_nil]); first | done | (simp only [hji96]; rfl) | rfl | (simp only [List.length_drop, List.length_take]; rfl)) ?_
                       with_reducible refine (spec_PutResp.calls kj86 t162 _ _ x159001_2 (strOfNums ((l0.take ((ji96) : Int).toNat).drop (t153 : Int).toNat)) t175 _ ?side1 ?side2 A95.1).mono ?_
                       (case side1 => repeat (first | exact (Kd.R_reads' HO_159001.1).2.2 | (with_reducible refine Kd.C_alloc ?_ _) | (with_reducible refine Kd.C_drewN ?_ _) | (with_reducible refine Kd.C_drew ?_)))
                       (case side2 => exact (Kd.R_reads' HO_159001.1).2.1)
                       rintro e w112 ⟨v176, rfl, ho0, hb⟩
                       refine ⟨_, rfl, ?_⟩
                       have n0_ := Aside0.mk (Kd.R_below (by (with_reducible repeat (first | apply rA_ | apply rN_ | apply rD_)); exact HO_159001.1) hb)
                       have n1_ := Aside0.mk (Kd.R_lower ho0 (below_size (by repeat (first | (with_reducible first | exact HB.1 | apply aB_ | apply pN_ | apply dB_ | refine sB_ ?_ GE152.1 | refine sB_ ?_ GE158.1) | exact HB.1))))
                       have n2_ := Aside0.mk (bB_ (g := gb152) (o := .cells #[.int .i64 x153000_2, .slice none 0 0, .string x153002_2] 25 (0, 0)) (by (with_reducible repeat (first | refine bN_ ?_ _ | refine bD_ ?_ | refine bA_ ?_ _)); exact BK152.1) hb)
                       have n3_ := Aside0.mk (bB_ (g := gb158) (o := .cells #[.int .i64 t162, .slice Ao107 x159001_2.length co107, .string (strOfNums ((l0.take ((ji96) : Int).toNat).drop (t153 : Int).toNat))] 25 (0, 0)) (by (with_reducible repeat (first | refine bN_ ?_ _ | refine bD_ ?_ | refine bA_ ?_ _)); exact BK158.1) hb)
                       have n4_ := Aside0.mk (below_step (by repeat (first | (with_reducible first | exact HB.1 | apply aB_ | apply pN_ | apply dB_ | refine sB_ ?_ GE152.1 | refine sB_ ?_ GE158.1) | exact HB.1)) hb)
                       clear HO_159001 BK152 BK158 HB
                       have HO_159001 := n0_
                       have HO177 := n1_
                       have BK152 := n2_
                       have BK158 := n3_
                       have HB := n4_
                       clear n0_ n1_ n2_ n3_ n4_
                       (try clear hb)
                       (try clear hb2)
                       (try clear hk)
                       (try clear hi)
                       (try clear ho0)
                       refine hK.out _ _ ⟨(bc_ BK158.1 0).trans rfl, (bc_ BK158.1 1).trans rfl, (bc_ BK158.1 2).trans rfl⟩ (fun hHeld => ?_)
                       clear hK K
                       refine norm_ (a' := ?_) ?_ ?_
                       rotate_left
                       ·show Act.put _ (some 113) _ = _
                        simp only [Act.put, List.setIfInBounds_toArray, List.set_cons_zero, List.set_cons_succ, i64_w, i32_w]
                        rfl
                       refine one_ (i := 2) (N := some 114) #[true, true, true, true, true, true, true, true, true, false, false, false, false, false, false, false] rfl rfl (one_of HT_.1 (by kernel_rfl)) (by decide) (fun K hK => ?_)
                       have hcv113 := own_string (P := Tryz.prog) Tryz.underlying22 Tryz.underlying5 Tryz.underlying9 (Kd.own_of_R HO177.1)
                       refine value_ (w1 := ?_) (v := ?_) (by rfl) rfl ?_ ?_
                       rotate_left 2
                       ·go_simp
                        constructor
                        ·rfl
                        ·rfl
                       clear hcv113
                       refine hK.out _ _ ⟨(bc_ BK158.1 0).trans rfl, (bc_ BK158.1 1).trans rfl, (bc_ BK158.1 2).trans rfl⟩ (fun hHeld => ?_)
                       clear hK K
                       refine norm_ (a' := ?_) ?_ ?_
                       rotate_left
                       ·show Act.put _ (some 114) _ = _
                        simp only [Act.put, List.setIfInBounds_toArray, List.set_cons_zero, List.set_cons_succ, i64_w, i32_w]
                        rfl
                       exact norm_ (by simp only [putAll, Act.put, List.setIfInBounds_toArray, List.set_cons_zero, List.set_cons_succ]) (hCont (v176) _ ⟨hHeld, (by (with_reducible repeat (first | apply rA_ | apply rN_ | apply rD_)); exact HO177.1), (by (with_reducible repeat (first | apply rA_ | apply rN_ | apply rD_)); exact HO_159001.1), (by (with_reducible repeat (first | refine bN_ ?_ _ | refine bD_ ?_ | refine bA_ ?_ _)); exact BK152.1), (by (with_reducible repeat (first | refine bN_ ?_ _ | refine bD_ ?_ | refine bA_ ?_ _)); exact BK158.1), (by repeat (first | (with_reducible first | exact HB.1 | apply aB_ | apply pN_ | apply dB_ | refine sB_ ?_ GE152.1 | refine sB_ ?_ GE158.1) | exact HB.1))⟩)
                     rintro v176 w114 ⟨hS_, h0_, h1_, h2_, h3_, h4_⟩
                     have n0_ : Aside0 (Kd.R (Kd.int .u8) 5 w114 w.heap.size (fun _ => True) v176 t175) := ⟨h0_⟩
                     have n1_ : Aside0 (Kd.R k88 88 w114 w.heap.size (fun _ => True) (.slice Ao107 x159001_2.length co107) x159001_2) := ⟨h1_⟩
                     have n2_ : Aside0 (w114.heap[gb152]? = some (.cells #[.int .i64 x153000_2, .slice none 0 0, .string x153002_2] 25 (0, 0))) := ⟨h2_⟩
                     have n3_ : Aside0 (w114.heap[gb158]? = some (.cells #[.int .i64 t162, .slice Ao107 x159001_2.length co107, .string (strOfNums ((l0.take ((ji96) : Int).toNat).drop (t153 : Int).toNat))] 25 (0, 0))) := ⟨h3_⟩
                     have n4_ : Aside0 (Below w.heap.size w w114) := ⟨h4_⟩
                     clear HO_159001 BK152 BK158 HB h0_ h1_ h2_ h3_ h4_
                     have HO177 := n0_
                     have HO_159001 := n1_
                     have BK152 := n2_
                     have BK158 := n3_
                     have HB := n4_
                     clear n0_ n1_ n2_ n3_ n4_
                     have hHeld : w114.cell? ⟨gb158, 0, none⟩ = some (.int .i64 t162) ∧ w114.cell? ⟨gb158, 1, none⟩ = some (.slice Ao107 x159001_2.length co107) ∧ w114.cell? ⟨gb158, 2, none⟩ = some (.string (strOfNums ((l0.take ((ji96) : Int).toNat).drop (t153 : Int).toNat))) := hS_
                     refine norm_ (a' := ?_) ?_ ?_
                     rotate_left
                     ·simp only [putAll, Act.put, List.setIfInBounds_toArray, List.set_cons_zero, List.set_cons_succ]
                      rfl
                     refine pure_ (i := 9) (N := some 121) (v := ?_) (a' := ?_) #[true, true, true, true, true, true, true, true, true, true, false, false, false, false, false, false] rfl rfl (any_of HT_.1 (by kernel_rfl)) (fun _ _ _ h => h) (Or.inl ⟨by rfl, ?_⟩) ?_ ?_
                     rotate_left
                     ·intro w'
                      go_simp
                      with_reducible rfl
                     rotate_left
                     ·simp only [Act.put, List.setIfInBounds_toArray, List.set_cons_zero, List.set_cons_succ, i64_w, i32_w]
                      rfl
                     refine pure_ (i := 10) (N := some 122) (v := ?_) (a' := ?_) #[true, true, true, true, true, true, true, true, true, true, true, false, false, false, false, false] rfl rfl (any_of HT_.1 (by kernel_rfl)) (fun _ _ _ h => h) (Or.inl ⟨by rfl, ?_⟩) ?_ ?_
                     rotate_left
                     ·intro w'
                      go_simp
                      with_reducible rfl
                     rotate_left
                     ·simp only [Act.put, List.setIfInBounds_toArray, List.set_cons_zero, List.set_cons_succ, i64_w, i32_w]
                      rfl
                     refine take_ (i := 11) (N := some 123) (v := ?_) (a' := ?_) #[true, true, true, true, true, true, true, true, true, true, true, true, false, false, false, false] rfl rfl (take_ofW HT_.1 HW_.1 (by kernel_rfl)) (fun _ _ _ h => h) (Or.inl ⟨by rfl, ?_⟩) hHeld ?_ ?_
                     rotate_left
                     ·rintro w' ⟨s0, s1, s2⟩
                      go_simp
                      with_reducible rfl
                     rotate_left
                     ·simp only [Act.put, List.setIfInBounds_toArray, List.set_cons_zero, List.set_cons_succ, i64_w, i32_w]
                      rfl
                     refine one_ (i := 12) (N := some 124) #[true, true, true, true, true, true, true, true, true, true, true, true, true, false, false, false] rfl rfl (one_of HT_.1 (by kernel_rfl)) (by decide) (fun K hK => ?_)
                     refine goes_ Tryz.func75 (by kernel_rfl) rfl #[.agg #[.int .i64 t162, .slice Ao107 x159001_2.length co107, .string (strOfNums ((l0.take ((ji96) : Int).toNat).drop (t153 : Int).toNat))]] (by rfl) rfl rfl (by (try simp only [List.map_toArray, List.map_cons, List.map_nil]); first | done | (simp only [hji96]; rfl) | rfl | (simp only [List.length_drop, List.length_take]; rfl)) ?_
                     with_reducible refine (spec_PutResp.calls kj86 t162 _ _ x159001_2 (strOfNums ((l0.take ((ji96) : Int).toNat).drop (t153 : Int).toNat)) t175 _ ?side1 ?side2 A100.1).mono ?_
                     (case side1 => repeat (first | exact (Kd.R_reads' HO_159001.1).2.2 | (with_reducible refine Kd.C_alloc ?_ _) | (with_reducible refine Kd.C_drewN ?_ _) | (with_reducible refine Kd.C_drew ?_)))
                     (case side2 => exact (Kd.R_reads' HO_159001.1).2.1)
                     rintro e w115 ⟨v180, rfl, ho0, hb⟩
                     refine ⟨_, rfl, ?_⟩
                     have n0_ := Aside0.mk (Kd.R_below (by (with_reducible repeat (first | apply rA_ | apply rN_ | apply rD_)); exact HO_159001.1) hb)
                     have n1_ := Aside0.mk (Kd.R_elder' (by (with_reducible repeat (first | apply rA_ | apply rN_ | apply rD_)); exact HO177.1) (Kd.R_base ho0) hb)
                     have n2_ := Aside0.mk (Kd.R_lower (Kd.R_new' ho0 (Kd.R_lt (by (with_reducible repeat (first | apply rA_ | apply rN_ | apply rD_)); exact HO177.1))) (below_size (by repeat (first | (with_reducible first | exact HB.1 | apply aB_ | apply pN_ | apply dB_ | refine sB_ ?_ GE152.1 | refine sB_ ?_ GE158.1) | exact HB.1))))
                     have n3_ := Aside0.mk (bB_ (g := gb152) (o := .cells #[.int .i64 x153000_2, .slice none 0 0, .string x153002_2] 25 (0, 0)) (by (with_reducible repeat (first | refine bN_ ?_ _ | refine bD_ ?_ | refine bA_ ?_ _)); exact BK152.1) hb)
                     have n4_ := Aside0.mk (bB_ (g := gb158) (o := .cells #[.int .i64 t162, .slice Ao107 x159001_2.length co107, .string (strOfNums ((l0.take ((ji96) : Int).toNat).drop (t153 : Int).toNat))] 25 (0, 0)) (by (with_reducible repeat (first | refine bN_ ?_ _ | refine bD_ ?_ | refine bA_ ?_ _)); exact BK158.1) hb)
                     have n5_ := Aside0.mk (below_step (by repeat (first | (with_reducible first | exact HB.1 | apply aB_ | apply pN_ | apply dB_ | refine sB_ ?_ GE152.1 | refine sB_ ?_ GE158.1) | exact HB.1)) hb)
                     clear HO_159001 HO177 BK152 BK158 HB
                     have HO_159001 := n0_
                     have HO177 := n1_
                     have HO181 := n2_
                     have BK152 := n3_
                     have BK158 := n4_
                     have HB := n5_
                     clear n0_ n1_ n2_ n3_ n4_ n5_
                     (try clear hb)
                     (try clear hb2)
                     (try clear hk)
                     (try clear hi)
                     (try clear ho0)
                     obtain ⟨Ao116, co116, eo116⟩ := Kd.R_slice HO181.1
                     (first | subst eo116 | (injection eo116 with f1_ f2_ f3_; have f4_ := f1_.symm; have f5_ := f3_.symm; clear f1_ f2_ f3_; subst f4_; subst f5_))
                     refine hK.out _ _ ⟨(bc_ BK158.1 0).trans rfl, (bc_ BK158.1 1).trans rfl, (bc_ BK158.1 2).trans rfl⟩ (fun hHeld => ?_)
                     clear hK K
                     refine norm_ (a' := ?_) ?_ ?_
                     rotate_left
                     ·show Act.put _ (some 124) _ = _
                      simp only [Act.put, List.setIfInBounds_toArray, List.set_cons_zero, List.set_cons_succ, i64_w, i32_w]
                      rfl
                     refine pure_ (i := 13) (N := some 125) (v := ?_) (a' := ?_) #[true, true, true, true, true, true, true, true, true, true, true, true, true, true, false, false] rfl rfl (any_of HT_.1 (by kernel_rfl)) (fun _ _ _ h => h) (Or.inl ⟨by rfl, ?_⟩) ?_ ?_
                     rotate_left
                     ·intro w'
                      go_simp
                      with_reducible rfl
                     rotate_left
                     ·simp only [Act.put, List.setIfInBounds_toArray, List.set_cons_zero, List.set_cons_succ, i64_w, i32_w]
                      rfl
                     refine pure_ (i := 14) (N := some 126) (v := ?_) (a' := ?_) #[true, true, true, true, true, true, true, true, true, true, true, true, true, true, true, false] rfl rfl (any_of HT_.1 (by kernel_rfl)) (fun _ _ _ h => h) (Or.inl ⟨by rfl, ?_⟩) ?_ ?_
                     rotate_left
                     ·intro w'
                      go_simp
                      with_reducible rfl
                     rotate_left
                     ·simp only [Act.put, List.setIfInBounds_toArray, List.set_cons_zero, List.set_cons_succ, i64_w, i32_w]
                      rfl
                     refine pure_ (i := 15) (N := some 127) (v := ?_) (a' := ?_) #[true, true, true, true, true, true, true, true, true, true, true, true, true, true, true, true] rfl rfl (any_of HT_.1 (by kernel_rfl)) (fun _ _ _ h => h) (Or.inl ⟨by rfl, ?_⟩) ?_ ?_
                     rotate_left
                     ·intro w'
                      go_simp
                      with_reducible rfl
                     rotate_left
                     ·simp only [Act.put, List.setIfInBounds_toArray, List.set_cons_zero, List.set_cons_succ, i64_w, i32_w]
                      rfl
                     refine done_ (done_of HT_.1 (by kernel_rfl)) ?_
                     have hcz117_0 : w115.cell? ⟨gb152, 0, none⟩ = some (.int .i64 x153000_2) := (bc_ BK152.1 0).trans rfl
                     have hcz117_1 : w115.cell? ⟨gb152, 1, none⟩ = some (.slice none 0 0) := (bc_ BK152.1 1).trans rfl
                     have hcz117_2 : w115.cell? ⟨gb152, 2, none⟩ = some (.string x153002_2) := (bc_ BK152.1 2).trans rfl
                     have hfz117_0 := bF_ BK152.1 0
                     have hfz117_1 := bF_ BK152.1 1
                     have hfz117_2 := bF_ BK152.1 2
                     try go_wp2
                     refine bodyPost_ret (results_ctt rfl _ _ gb152 25 #[.int .i64 0, .slice none 0 0, .string (⟨#[]⟩ : ByteArray)] (0, 0) _ rfl (by (with_reducible repeat (first | refine bN_ ?_ _ | refine bD_ ?_ | refine bA_ ?_ _)); refine blk_put (cs := #[.int .i64 0, .slice none 0 0, .string x153002_2]) ?_ 2 _ rfl; (with_reducible repeat (first | refine bN_ ?_ _ | refine bD_ ?_ | refine bA_ ?_ _)); refine blk_put (cs := #[.int .i64 0, .slice none 0 0, .string x153002_2]) ?_ 1 _ rfl; (with_reducible repeat (first | refine bN_ ?_ _ | refine bD_ ?_ | refine bA_ ?_ _)); refine blk_put (cs := #[.int .i64 x153000_2, .slice none 0 0, .string x153002_2]) ?_ 0 _ rfl; (with_reducible repeat (first | refine bN_ ?_ _ | refine bD_ ?_ | refine bA_ ?_ _)); exact BK152.1) Tryz.underlying25 rfl (by kernel_rfl)) rfl ?_
                     exact ⟨_, by first | rfl | (simp [errW_none, errW_some] <;> rfl) | (simp only [← hji6, ← hji96]; first | rfl | (simp [errW_none, errW_some] <;> rfl)) | (simp [*, errW_none, errW_some] <;> rfl), by first | exact Kd.R_nil _ _ _ _ _ | exact Kd.N_nil _ _ _ _ _ | exact Kd.V_nil _ _ _ _ _ | exact Kd.Q_nil _ _ _ _ _ | exact Kd.S_nil _ _ _ _ _, by repeat (first | (with_reducible first | exact HB.1 | apply aB_ | apply pN_ | apply dB_ | refine sB_ ?_ GE152.1 | refine sB_ ?_ GE158.1) | exact HB.1)⟩
                    ·rw [if_neg c101] at H
                     have c101b0 : ((t175.length : Int) == 0) = false := beq_eq_false_iff_ne.mpr c101
                     have c101b1 : ((t175.length : Int) != 0) = true := bne_iff_ne.mpr c101
                     have c101b2 : ¬ (t175 = []) := fun h_ => c101 (by rw [h_]; rfl)
                     simp only [Option.some.injEq, Prod.mk.injEq] at H
                     obtain ⟨rfl, rfl, rfl, rfl, rfl⟩ := H
                     obtain ⟨i0118, hi0118, _, hsz118, _⟩ := info_parts info5
                     obtain ⟨A118, hcut118, hA118, hC118⟩ := print_mid_of (P := Tryz.prog) (Value.int .u8) 0 22 5 .i64 .i64 Tryz.underlying22 hi0118 hsz118 A0 c0 l0 t153 (ji96) (of_decide_eq_true (by first | (with_reducible assumption) | assumption)) (by first | omega | exact of_decide_eq_true (by first | (with_reducible assumption) | assumption)) (of_decide_eq_true (by first | (with_reducible assumption) | assumption)) HC0.1
                     have HR174 := Aside0.mk (Kd.C_of_reads (h1 := fun _ => rfl) (hA118 _ (Kd.reads_of_C HR0.1)))
                     have HC174 := Aside0.mk hC118
                     clear hA118 hC118 hi0118 hsz118
                     have hq_ := (Kd.C_below HR174.1 HB.1)
                     rw [show ((l0.take ((ji96) : Int).toNat).drop (t153 : Int).toNat).length = ((ji96).toNat - t153.toNat) from (by rw [List.length_drop, List.length_take]; have h_ : ((ji96) : Int) ≤ (l0.length : Int) := of_decide_eq_true (by first | (with_reducible assumption) | assumption); omega)] at hq_
                     have hcv119 := Kd.C_string (P := Tryz.prog) (A := A118) (c := (c0 - t153.toNat)) Tryz.underlying22 Tryz.underlying5 Tryz.underlying9 hq_
                     have hcv120 := fun nq_ : Nat => Kd.C_string (P := Tryz.prog) (A := A118) (c := (c0 - t153.toNat)) Tryz.underlying22 Tryz.underlying5 Tryz.underlying9 (Kd.C_drewN hq_ nq_)
                     clear hq_
                     have hnb121 := NB158_152.1
                     have hnc121 := NB152_158.1
                     have hcz122_0 : wc.cell? ⟨gb158, 0, none⟩ = some (.int .i64 t162) := (bc_ BK158.1 0).trans rfl
                     have hcz122_1 : wc.cell? ⟨gb158, 1, none⟩ = some (u159001) := (bc_ BK158.1 1).trans rfl
                     have hcz122_2 : wc.cell? ⟨gb158, 2, none⟩ = some (.string (⟨#[]⟩ : ByteArray)) := (bc_ BK158.1 2).trans rfl
                     have hfz122_0 := bF_ BK158.1 0
                     have hfz122_1 := bF_ BK158.1 1
                     have hfz122_2 := bF_ BK158.1 2
                     obtain ⟨Ao123, co123, eo123⟩ := Kd.R_slice HO_159001.1
                     subst eo123
                     try go_wp2
                     have n0_ : Aside0 (Kd.R k88 88 (wc.setCell ⟨gb158, 2, none⟩ (.string (strOfNums ((l0.take ((ji96) : Int).toNat).drop (t153 : Int).toNat)))) w.heap.size (fun _ => True) (.slice Ao123 x159001_2.length co123) x159001_2) := ⟨by (with_reducible repeat (first | apply rA_ | apply rN_ | apply rD_)); exact Kd.R_mono (rF_ (p := ⟨gb158, 2, none⟩) (Kd.R_types HO_159001.1 BK158.1 (by decide)) (fun _ hk => hk.2) (.string (strOfNums ((l0.take ((ji96) : Int).toNat).drop (t153 : Int).toNat)))) (fun _ hk => trivial)⟩
                     have n1_ : Aside0 ((wc.setCell ⟨gb158, 2, none⟩ (.string (strOfNums ((l0.take ((ji96) : Int).toNat).drop (t153 : Int).toNat)))).heap[gb152]? = some (.cells #[.int .i64 x153000_2, .slice none 0 0, .string x153002_2] 25 (0, 0))) := ⟨by (with_reducible repeat (first | refine bN_ ?_ _ | refine bD_ ?_ | refine bA_ ?_ _)); refine blk_far ?_ NB152_158.1 _; (with_reducible repeat (first | refine bN_ ?_ _ | refine bD_ ?_ | refine bA_ ?_ _)); exact BK152.1⟩
                     have n2_ : Aside0 ((wc.setCell ⟨gb158, 2, none⟩ (.string (strOfNums ((l0.take ((ji96) : Int).toNat).drop (t153 : Int).toNat)))).heap[gb158]? = some (.cells #[.int .i64 t162, .slice Ao123 x159001_2.length co123, .string (strOfNums ((l0.take ((ji96) : Int).toNat).drop (t153 : Int).toNat))] 25 (0, 0))) := ⟨by (with_reducible repeat (first | refine bN_ ?_ _ | refine bD_ ?_ | refine bA_ ?_ _)); refine blk_put (cs := #[.int .i64 t162, .slice Ao123 x159001_2.length co123, .string (⟨#[]⟩ : ByteArray)]) ?_ 2 _ rfl; (with_reducible repeat (first | refine bN_ ?_ _ | refine bD_ ?_ | refine bA_ ?_ _)); exact BK158.1⟩
                     have n3_ : Aside0 (Below w.heap.size w (wc.setCell ⟨gb158, 2, none⟩ (.string (strOfNums ((l0.take ((ji96) : Int).toNat).drop (t153 : Int).toNat))))) := ⟨by repeat (first | (with_reducible first | exact HB.1 | apply aB_ | apply pN_ | apply dB_ | refine sB_ ?_ GE152.1 | refine sB_ ?_ GE158.1) | exact HB.1)⟩
                     (try clear HO_159001)
                     (try clear BK152)
                     (try clear BK158)
                     (try clear HB)
                     generalize (wc.setCell ⟨gb158, 2, none⟩ (.string (strOfNums ((l0.take ((ji96) : Int).toNat).drop (t153 : Int).toNat)))) = w124 at n0_ n1_ n2_ n3_ ⊢
                     have HO_159001 := n0_
                     have BK152 := n1_
                     have BK158 := n2_
                     have HB := n3_
                     clear n0_ n1_ n2_ n3_
                     have n0_ := Aside0.mk (rD_ HO_159001.1)
                     have n1_ := Aside0.mk (bD_ BK152.1)
                     have n2_ := Aside0.mk (bD_ BK158.1)
                     have n3_ := Aside0.mk (dB_ HB.1)
                     clear HO_159001 BK152 BK158 HB
                     have HO_159001 := n0_
                     have BK152 := n1_
                     have BK158 := n2_
                     have HB := n3_
                     clear n0_ n1_ n2_ n3_
                     obtain ⟨i0126, hi0126, _, hsz126, _⟩ := info_parts info5
                     obtain ⟨hcut126, hA126, hC126⟩ := print_take_of (P := Tryz.prog) (Value.int .u8) 0 22 5 .i64 Tryz.underlying22 hi0126 hsz126 A0 c0 l0 (ji96) (of_decide_eq_true (by first | (with_reducible assumption) | assumption)) (of_decide_eq_true (by first | (with_reducible assumption) | assumption)) HC0.1
                     have HR178 := Aside0.mk (Kd.C_of_reads (h1 := fun _ => rfl) (hA126 _ (Kd.reads_of_C HR0.1)))
                     have HC178 := Aside0.mk hC126
                     clear hA126 hC126 hi0126 hsz126
                     refine start_ (n := 16) (S := fun w' => w'.cell? ⟨gb158, 0, none⟩ = some (.int .i64 t162) ∧ w'.cell? ⟨gb158, 1, none⟩ = some (.slice Ao123 x159001_2.length co123) ∧ w'.cell? ⟨gb158, 2, none⟩ = some (.string (strOfNums ((l0.take ((ji96) : Int).toNat).drop (t153 : Int).toNat)))) (ds := []) #[false, false, false, false, false, false, false, false, false, false, false, false, false, false, false, false] (by kernel_rfl) rfl rfl ⟨(bc_ BK158.1 0).trans rfl, (bc_ BK158.1 1).trans rfl, (bc_ BK158.1 2).trans rfl⟩ (fun hHeld => ?_); refine with_tabW spec_GetResp.tab24 spec_GetResp.bits24 (fun HT_ HW_ => ?_)
                     generalize w124.drew = w125 at HO_159001 BK152 BK158 HB HR178 hHeld ⊢
                     refine pure_ (i := 3) (N := some 115) (v := ?_) (a' := ?_) #[false, false, false, true, false, false, false, false, false, false, false, false, false, false, false, false] rfl rfl (any_of HT_.1 (by kernel_rfl)) (fun _ _ _ h => h) (Or.inl ⟨by rfl, ?_⟩) ?_ ?_
                     rotate_left
                     ·intro w'
                      go_simp
                      with_reducible rfl
                     rotate_left
                     ·simp only [Act.put, List.setIfInBounds_toArray, List.set_cons_zero, List.set_cons_succ, i64_w, i32_w]
                      rfl
                     refine pure_ (i := 4) (N := some 116) (v := ?_) (a' := ?_) #[false, false, false, true, true, false, false, false, false, false, false, false, false, false, false, false] rfl rfl (any_of HT_.1 (by kernel_rfl)) (fun _ _ _ h => h) (Or.inl ⟨by rfl, ?_⟩) ?_ ?_
                     rotate_left
                     ·intro w'
                      go_simp
                      with_reducible rfl
                     rotate_left
                     ·simp only [Act.put, List.setIfInBounds_toArray, List.set_cons_zero, List.set_cons_succ, i64_w, i32_w]
                      rfl
                     refine pure_ (i := 5) (N := some 117) (v := ?_) (a' := ?_) #[false, false, false, true, true, true, false, false, false, false, false, false, false, false, false, false] rfl rfl (any_of HT_.1 (by kernel_rfl)) (fun _ _ _ h => h) (Or.inl ⟨by rfl, ?_⟩) ?_ ?_
                     rotate_left
                     ·intro w'
                      go_simp
                      with_reducible rfl
                     rotate_left
                     ·simp only [Act.put, List.setIfInBounds_toArray, List.set_cons_zero, List.set_cons_succ, i64_w, i32_w]
                      rfl
                     refine pure_ (i := 6) (N := some 118) (v := ?_) (a' := ?_) #[false, false, false, true, true, true, true, false, false, false, false, false, false, false, false, false] rfl rfl (any_of HT_.1 (by kernel_rfl)) (fun _ _ _ h => h) (Or.inl ⟨by rfl, ?_⟩) ?_ ?_
                     rotate_left
                     ·intro w'
                      go_simp
                      with_reducible rfl
                     rotate_left
                     ·simp only [Act.put, List.setIfInBounds_toArray, List.set_cons_zero, List.set_cons_succ, i64_w, i32_w]
                      rfl
                     refine pure_ (i := 7) (N := some 119) (v := ?_) (a' := ?_) #[false, false, false, true, true, true, true, true, false, false, false, false, false, false, false, false] rfl rfl (any_of HT_.1 (by kernel_rfl)) (fun _ _ _ h => h) (Or.inl ⟨by rfl, ?_⟩) ?_ ?_
                     rotate_left
                     ·intro w'
                      go_simp
                      with_reducible rfl
                     rotate_left
                     ·simp only [Act.put, List.setIfInBounds_toArray, List.set_cons_zero, List.set_cons_succ, i64_w, i32_w]
                      rfl
                     refine take_ (i := 0) (N := some 112) (v := ?_) (a' := ?_) #[true, false, false, true, true, true, true, true, false, false, false, false, false, false, false, false] rfl rfl (take_ofW HT_.1 HW_.1 (by kernel_rfl)) (fun _ _ _ h => h) (Or.inl ⟨by rfl, ?_⟩) hHeld ?_ ?_
                     rotate_left
                     ·rintro w' ⟨s0, s1, s2⟩
                      go_simp
                      with_reducible rfl
                     rotate_left
                     ·simp only [Act.put, List.setIfInBounds_toArray, List.set_cons_zero, List.set_cons_succ, i64_w, i32_w]
                      rfl
                     refine join_ (σ := Value) 7 #[true, true, true, true, true, true, true, true, true, false, false, false, false, false, false, false] (fun s_ => [(113, s_), (114, .string (strOfNums t175)), (120, .string (strOfNums (l0.take ((ji96) : Int).toNat)))]) (fun s_ w' => (w'.cell? ⟨gb158, 0, none⟩ = some (.int .i64 t162) ∧ w'.cell? ⟨gb158, 1, none⟩ = some (.slice Ao123 x159001_2.length co123) ∧ w'.cell? ⟨gb158, 2, none⟩ = some (.string (strOfNums ((l0.take ((ji96) : Int).toNat).drop (t153 : Int).toNat)))) ∧ (Kd.R (Kd.int .u8) 5 w' w.heap.size (fun _ => True) s_ t175) ∧ (Kd.R k88 88 w' w.heap.size (fun _ => True) (.slice Ao123 x159001_2.length co123) x159001_2) ∧ (w'.heap[gb152]? = some (.cells #[.int .i64 x153000_2, .slice none 0 0, .string x153002_2] 25 (0, 0))) ∧ (w'.heap[gb158]? = some (.cells #[.int .i64 t162, .slice Ao123 x159001_2.length co123, .string (strOfNums ((l0.take ((ji96) : Int).toNat).drop (t153 : Int).toNat))] 25 (0, 0))) ∧ (Below w.heap.size w w')) ?_ ?_
                     rotate_left
                     ·intro hCont
                      refine two_ (i := 1) (j := 8) (Ni := some 113) (Nj := some 120) #[true, true, false, true, true, true, true, true, false, false, false, false, false, false, false, false] #[true, false, false, true, true, true, true, true, true, false, false, false, false, false, false, false] rfl rfl rfl rfl (two_of HT_.1 (by kernel_rfl)) (by decide) (by decide) (fun K hK => ?_) (fun K hK => ?_)
                      ·skip
                       refine goes_ Tryz.func75 (by kernel_rfl) rfl #[.agg #[.int .i64 t162, .slice Ao123 x159001_2.length co123, .string (strOfNums ((l0.take ((ji96) : Int).toNat).drop (t153 : Int).toNat))]] (by rfl) rfl rfl (by (try simp only [List.map_toArray, List.map_cons, List.map_nil]); first | done | (simp only [hji96]; rfl) | rfl | (simp only [List.length_drop, List.length_take]; rfl)) ?_
                       with_reducible refine (spec_PutResp.calls kj86 t162 _ _ x159001_2 (strOfNums ((l0.take ((ji96) : Int).toNat).drop (t153 : Int).toNat)) t175 _ ?side1 ?side2 A95.1).mono ?_
                       (case side1 => repeat (first | exact (Kd.R_reads' HO_159001.1).2.2 | (with_reducible refine Kd.C_alloc ?_ _) | (with_reducible refine Kd.C_drewN ?_ _) | (with_reducible refine Kd.C_drew ?_)))
                       (case side2 => exact (Kd.R_reads' HO_159001.1).2.1)
                       rintro e w127 ⟨v176, rfl, ho0, hb⟩
                       refine ⟨_, rfl, ?_⟩
                       have n0_ := Aside0.mk (Kd.R_below (by (with_reducible repeat (first | apply rA_ | apply rN_ | apply rD_)); exact HO_159001.1) hb)
                       have n1_ := Aside0.mk (Kd.R_lower ho0 (below_size (by repeat (first | (with_reducible first | exact HB.1 | apply aB_ | apply pN_ | apply dB_ | refine sB_ ?_ GE152.1 | refine sB_ ?_ GE158.1) | exact HB.1))))
                       have n2_ := Aside0.mk (bB_ (g := gb152) (o := .cells #[.int .i64 x153000_2, .slice none 0 0, .string x153002_2] 25 (0, 0)) (by (with_reducible repeat (first | refine bN_ ?_ _ | refine bD_ ?_ | refine bA_ ?_ _)); exact BK152.1) hb)
                       have n3_ := Aside0.mk (bB_ (g := gb158) (o := .cells #[.int .i64 t162, .slice Ao123 x159001_2.length co123, .string (strOfNums ((l0.take ((ji96) : Int).toNat).drop (t153 : Int).toNat))] 25 (0, 0)) (by (with_reducible repeat (first | refine bN_ ?_ _ | refine bD_ ?_ | refine bA_ ?_ _)); exact BK158.1) hb)
                       have n4_ := Aside0.mk (below_step (by repeat (first | (with_reducible first | exact HB.1 | apply aB_ | apply pN_ | apply dB_ | refine sB_ ?_ GE152.1 | refine sB_ ?_ GE158.1) | exact HB.1)) hb)
                       clear HO_159001 BK152 BK158 HB
                       have HO_159001 := n0_
                       have HO177 := n1_
                       have BK152 := n2_
                       have BK158 := n3_
                       have HB := n4_
                       clear n0_ n1_ n2_ n3_ n4_
                       (try clear hb)
                       (try clear hb2)
                       (try clear hk)
                       (try clear hi)
                       (try clear ho0)
                       refine hK.out _ _ ⟨(bc_ BK158.1 0).trans rfl, (bc_ BK158.1 1).trans rfl, (bc_ BK158.1 2).trans rfl⟩ (fun hHeld => ?_)
                       clear hK K
                       refine norm_ (a' := ?_) ?_ ?_
                       rotate_left
                       ·show Act.put _ (some 113) _ = _
                        simp only [Act.put, List.setIfInBounds_toArray, List.set_cons_zero, List.set_cons_succ, i64_w, i32_w]
                        rfl
                       refine two_ (i := 2) (j := 8) (Ni := some 114) (Nj := some 120) #[true, true, true, true, true, true, true, true, false, false, false, false, false, false, false, false] #[true, true, false, true, true, true, true, true, true, false, false, false, false, false, false, false] rfl rfl rfl rfl (two_of HT_.1 (by kernel_rfl)) (by decide) (by decide) (fun K hK => ?_) (fun K hK => ?_)
                       ·skip
                        have hcv128 := own_string (P := Tryz.prog) Tryz.underlying22 Tryz.underlying5 Tryz.underlying9 (Kd.own_of_R HO177.1)
                        refine value_ (w1 := ?_) (v := ?_) (by rfl) rfl ?_ ?_
                        rotate_left 2
                        ·go_simp
                         constructor
                         ·rfl
                         ·rfl
                        clear hcv128
                        refine hK.out _ _ ⟨(bc_ BK158.1 0).trans rfl, (bc_ BK158.1 1).trans rfl, (bc_ BK158.1 2).trans rfl⟩ (fun hHeld => ?_)
                        clear hK K
                        refine norm_ (a' := ?_) ?_ ?_
                        rotate_left
                        ·show Act.put _ (some 114) _ = _
                         simp only [Act.put, List.setIfInBounds_toArray, List.set_cons_zero, List.set_cons_succ, i64_w, i32_w]
                         rfl
                        refine one_ (i := 8) (N := some 120) #[true, true, true, true, true, true, true, true, true, false, false, false, false, false, false, false] rfl rfl (one_of HT_.1 (by kernel_rfl)) (by decide) (fun K hK => ?_)
                        (have hq_ := (Kd.C_below HR178.1 HB.1); rw [show (l0.take ((ji96) : Int).toNat).length = (ji96).toNat from (by rw [List.length_take]; have h_ : ((ji96) : Int) ≤ (l0.length : Int) := of_decide_eq_true (by first | (with_reducible assumption) | assumption); omega)] at hq_; have hcv129 := Kd.C_string (P := Tryz.prog) (A := A0) (c := c0) Tryz.underlying22 Tryz.underlying5 Tryz.underlying9 hq_; clear hq_)
                        refine value_ (w1 := ?_) (v := ?_) (by rfl) rfl ?_ ?_
                        rotate_left 2
                        ·go_simp
                         constructor
                         ·rfl
                         ·rfl
                        clear hcv129
                        refine hK.out _ _ ⟨(bc_ BK158.1 0).trans rfl, (bc_ BK158.1 1).trans rfl, (bc_ BK158.1 2).trans rfl⟩ (fun hHeld => ?_)
                        clear hK K
                        refine norm_ (a' := ?_) ?_ ?_
                        rotate_left
                        ·show Act.put _ (some 120) _ = _
                         simp only [Act.put, List.setIfInBounds_toArray, List.set_cons_zero, List.set_cons_succ, i64_w, i32_w]
                         rfl
                        exact norm_ (by simp only [putAll, Act.put, List.setIfInBounds_toArray, List.set_cons_zero, List.set_cons_succ]) (hCont (v176) _ ⟨hHeld, (by (with_reducible repeat (first | apply rA_ | apply rN_ | apply rD_)); exact HO177.1), (by (with_reducible repeat (first | apply rA_ | apply rN_ | apply rD_)); exact HO_159001.1), (by (with_reducible repeat (first | refine bN_ ?_ _ | refine bD_ ?_ | refine bA_ ?_ _)); exact BK152.1), (by (with_reducible repeat (first | refine bN_ ?_ _ | refine bD_ ?_ | refine bA_ ?_ _)); exact BK158.1), (by repeat (first | (with_reducible first | exact HB.1 | apply aB_ | apply pN_ | apply dB_ | refine sB_ ?_ GE152.1 | refine sB_ ?_ GE158.1) | exact HB.1))⟩)
                       ·skip
                        (have hq_ := (Kd.C_below HR178.1 HB.1); rw [show (l0.take ((ji96) : Int).toNat).length = (ji96).toNat from (by rw [List.length_take]; have h_ : ((ji96) : Int) ≤ (l0.length : Int) := of_decide_eq_true (by first | (with_reducible assumption) | assumption); omega)] at hq_; have hcv128 := Kd.C_string (P := Tryz.prog) (A := A0) (c := c0) Tryz.underlying22 Tryz.underlying5 Tryz.underlying9 hq_; clear hq_)
                        refine value_ (w1 := ?_) (v := ?_) (by rfl) rfl ?_ ?_
                        rotate_left 2
                        ·go_simp
                         constructor
                         ·rfl
                         ·rfl
                        clear hcv128
                        refine hK.out _ _ ⟨(bc_ BK158.1 0).trans rfl, (bc_ BK158.1 1).trans rfl, (bc_ BK158.1 2).trans rfl⟩ (fun hHeld => ?_)
                        clear hK K
                        refine norm_ (a' := ?_) ?_ ?_
                        rotate_left
                        ·show Act.put _ (some 120) _ = _
                         simp only [Act.put, List.setIfInBounds_toArray, List.set_cons_zero, List.set_cons_succ, i64_w, i32_w]
                         rfl
                        refine one_ (i := 2) (N := some 114) #[true, true, true, true, true, true, true, true, true, false, false, false, false, false, false, false] rfl rfl (one_of HT_.1 (by kernel_rfl)) (by decide) (fun K hK => ?_)
                        have hcv129 := own_string (P := Tryz.prog) Tryz.underlying22 Tryz.underlying5 Tryz.underlying9 (Kd.own_of_R HO177.1)
                        refine value_ (w1 := ?_) (v := ?_) (by rfl) rfl ?_ ?_
                        rotate_left 2
                        ·go_simp
                         constructor
                         ·rfl
                         ·rfl
                        clear hcv129
                        refine hK.out _ _ ⟨(bc_ BK158.1 0).trans rfl, (bc_ BK158.1 1).trans rfl, (bc_ BK158.1 2).trans rfl⟩ (fun hHeld => ?_)
                        clear hK K
                        refine norm_ (a' := ?_) ?_ ?_
                        rotate_left
                        ·show Act.put _ (some 114) _ = _
                         simp only [Act.put, List.setIfInBounds_toArray, List.set_cons_zero, List.set_cons_succ, i64_w, i32_w]
                         rfl
                        exact norm_ (by simp only [putAll, Act.put, List.setIfInBounds_toArray, List.set_cons_zero, List.set_cons_succ]) (hCont (v176) _ ⟨hHeld, (by (with_reducible repeat (first | apply rA_ | apply rN_ | apply rD_)); exact HO177.1), (by (with_reducible repeat (first | apply rA_ | apply rN_ | apply rD_)); exact HO_159001.1), (by (with_reducible repeat (first | refine bN_ ?_ _ | refine bD_ ?_ | refine bA_ ?_ _)); exact BK152.1), (by (with_reducible repeat (first | refine bN_ ?_ _ | refine bD_ ?_ | refine bA_ ?_ _)); exact BK158.1), (by repeat (first | (with_reducible first | exact HB.1 | apply aB_ | apply pN_ | apply dB_ | refine sB_ ?_ GE152.1 | refine sB_ ?_ GE158.1) | exact HB.1))⟩)
                      ·skip
                       (have hq_ := (Kd.C_below HR178.1 HB.1); rw [show (l0.take ((ji96) : Int).toNat).length = (ji96).toNat from (by rw [List.length_take]; have h_ : ((ji96) : Int) ≤ (l0.length : Int) := of_decide_eq_true (by first | (with_reducible assumption) | assumption); omega)] at hq_; have hcv127 := Kd.C_string (P := Tryz.prog) (A := A0) (c := c0) Tryz.underlying22 Tryz.underlying5 Tryz.underlying9 hq_; clear hq_)
                       refine value_ (w1 := ?_) (v := ?_) (by rfl) rfl ?_ ?_
                       rotate_left 2
                       ·go_simp
                        constructor
                        ·rfl
                        ·rfl
                       clear hcv127
                       refine hK.out _ _ ⟨(bc_ BK158.1 0).trans rfl, (bc_ BK158.1 1).trans rfl, (bc_ BK158.1 2).trans rfl⟩ (fun hHeld => ?_)
                       clear hK K
                       refine norm_ (a' := ?_) ?_ ?_
                       rotate_left
                       ·show Act.put _ (some 120) _ = _
                        simp only [Act.put, List.setIfInBounds_toArray, List.set_cons_zero, List.set_cons_succ, i64_w, i32_w]
                        rfl
                       refine one_ (i := 1) (N := some 113) #[true, true, false, true, true, true, true, true, true, false, false, false, false, false, false, false] rfl rfl (one_of HT_.1 (by kernel_rfl)) (by decide) (fun K hK => ?_)
                       refine goes_ Tryz.func75 (by kernel_rfl) rfl #[.agg #[.int .i64 t162, .slice Ao123 x159001_2.length co123, .string (strOfNums ((l0.take ((ji96) : Int).toNat).drop (t153 : Int).toNat))]] (by rfl) rfl rfl (by (try simp only [List.map_toArray, List.map_cons, List.map_nil]); first | done | (simp only [hji96]; rfl) | rfl | (simp only [List.length_drop, List.length_take]; rfl)) ?_
                       with_reducible refine (spec_PutResp.calls kj86 t162 _ _ x159001_2 (strOfNums ((l0.take ((ji96) : Int).toNat).drop (t153 : Int).toNat)) t175 _ ?side1 ?side2 A95.1).mono ?_
                       (case side1 => repeat (first | exact (Kd.R_reads' HO_159001.1).2.2 | (with_reducible refine Kd.C_alloc ?_ _) | (with_reducible refine Kd.C_drewN ?_ _) | (with_reducible refine Kd.C_drew ?_)))
                       (case side2 => exact (Kd.R_reads' HO_159001.1).2.1)
                       rintro e w128 ⟨v176, rfl, ho0, hb⟩
                       refine ⟨_, rfl, ?_⟩
                       have n0_ := Aside0.mk (Kd.R_below (by (with_reducible repeat (first | apply rA_ | apply rN_ | apply rD_)); exact HO_159001.1) hb)
                       have n1_ := Aside0.mk (Kd.R_lower ho0 (below_size (by repeat (first | (with_reducible first | exact HB.1 | apply aB_ | apply pN_ | apply dB_ | refine sB_ ?_ GE152.1 | refine sB_ ?_ GE158.1) | exact HB.1))))
                       have n2_ := Aside0.mk (bB_ (g := gb152) (o := .cells #[.int .i64 x153000_2, .slice none 0 0, .string x153002_2] 25 (0, 0)) (by (with_reducible repeat (first | refine bN_ ?_ _ | refine bD_ ?_ | refine bA_ ?_ _)); exact BK152.1) hb)
                       have n3_ := Aside0.mk (bB_ (g := gb158) (o := .cells #[.int .i64 t162, .slice Ao123 x159001_2.length co123, .string (strOfNums ((l0.take ((ji96) : Int).toNat).drop (t153 : Int).toNat))] 25 (0, 0)) (by (with_reducible repeat (first | refine bN_ ?_ _ | refine bD_ ?_ | refine bA_ ?_ _)); exact BK158.1) hb)
                       have n4_ := Aside0.mk (below_step (by repeat (first | (with_reducible first | exact HB.1 | apply aB_ | apply pN_ | apply dB_ | refine sB_ ?_ GE152.1 | refine sB_ ?_ GE158.1) | exact HB.1)) hb)
                       clear HO_159001 BK152 BK158 HB
                       have HO_159001 := n0_
                       have HO177 := n1_
                       have BK152 := n2_
                       have BK158 := n3_
                       have HB := n4_
                       clear n0_ n1_ n2_ n3_ n4_
                       (try clear hb)
                       (try clear hb2)
                       (try clear hk)
                       (try clear hi)
                       (try clear ho0)
                       refine hK.out _ _ ⟨(bc_ BK158.1 0).trans rfl, (bc_ BK158.1 1).trans rfl, (bc_ BK158.1 2).trans rfl⟩ (fun hHeld => ?_)
                       clear hK K
                       refine norm_ (a' := ?_) ?_ ?_
                       rotate_left
                       ·show Act.put _ (some 113) _ = _
                        simp only [Act.put, List.setIfInBounds_toArray, List.set_cons_zero, List.set_cons_succ, i64_w, i32_w]
                        rfl
                       refine one_ (i := 2) (N := some 114) #[true, true, true, true, true, true, true, true, true, false, false, false, false, false, false, false] rfl rfl (one_of HT_.1 (by kernel_rfl)) (by decide) (fun K hK => ?_)
                       have hcv129 := own_string (P := Tryz.prog) Tryz.underlying22 Tryz.underlying5 Tryz.underlying9 (Kd.own_of_R HO177.1)
                       refine value_ (w1 := ?_) (v := ?_) (by rfl) rfl ?_ ?_
                       rotate_left 2
                       ·go_simp
                        constructor
                        ·rfl
                        ·rfl
                       clear hcv129
                       refine hK.out _ _ ⟨(bc_ BK158.1 0).trans rfl, (bc_ BK158.1 1).trans rfl, (bc_ BK158.1 2).trans rfl⟩ (fun hHeld => ?_)
                       clear hK K
                       refine norm_ (a' := ?_) ?_ ?_
                       rotate_left
                       ·show Act.put _ (some 114) _ = _
                        simp only [Act.put, List.setIfInBounds_toArray, List.set_cons_zero, List.set_cons_succ, i64_w, i32_w]
                        rfl
                       exact norm_ (by simp only [putAll, Act.put, List.setIfInBounds_toArray, List.set_cons_zero, List.set_cons_succ]) (hCont (v176) _ ⟨hHeld, (by (with_reducible repeat (first | apply rA_ | apply rN_ | apply rD_)); exact HO177.1), (by (with_reducible repeat (first | apply rA_ | apply rN_ | apply rD_)); exact HO_159001.1), (by (with_reducible repeat (first | refine bN_ ?_ _ | refine bD_ ?_ | refine bA_ ?_ _)); exact BK152.1), (by (with_reducible repeat (first | refine bN_ ?_ _ | refine bD_ ?_ | refine bA_ ?_ _)); exact BK158.1), (by repeat (first | (with_reducible first | exact HB.1 | apply aB_ | apply pN_ | apply dB_ | refine sB_ ?_ GE152.1 | refine sB_ ?_ GE158.1) | exact HB.1))⟩)
                     rintro v176 w130 ⟨hS_, h0_, h1_, h2_, h3_, h4_⟩
                     have n0_ : Aside0 (Kd.R (Kd.int .u8) 5 w130 w.heap.size (fun _ => True) v176 t175) := ⟨h0_⟩
                     have n1_ : Aside0 (Kd.R k88 88 w130 w.heap.size (fun _ => True) (.slice Ao123 x159001_2.length co123) x159001_2) := ⟨h1_⟩
                     have n2_ : Aside0 (w130.heap[gb152]? = some (.cells #[.int .i64 x153000_2, .slice none 0 0, .string x153002_2] 25 (0, 0))) := ⟨h2_⟩
                     have n3_ : Aside0 (w130.heap[gb158]? = some (.cells #[.int .i64 t162, .slice Ao123 x159001_2.length co123, .string (strOfNums ((l0.take ((ji96) : Int).toNat).drop (t153 : Int).toNat))] 25 (0, 0))) := ⟨h3_⟩
                     have n4_ : Aside0 (Below w.heap.size w w130) := ⟨h4_⟩
                     clear HO_159001 BK152 BK158 HB h0_ h1_ h2_ h3_ h4_
                     have HO177 := n0_
                     have HO_159001 := n1_
                     have BK152 := n2_
                     have BK158 := n3_
                     have HB := n4_
                     clear n0_ n1_ n2_ n3_ n4_
                     have hHeld : w130.cell? ⟨gb158, 0, none⟩ = some (.int .i64 t162) ∧ w130.cell? ⟨gb158, 1, none⟩ = some (.slice Ao123 x159001_2.length co123) ∧ w130.cell? ⟨gb158, 2, none⟩ = some (.string (strOfNums ((l0.take ((ji96) : Int).toNat).drop (t153 : Int).toNat))) := hS_
                     refine norm_ (a' := ?_) ?_ ?_
                     rotate_left
                     ·simp only [putAll, Act.put, List.setIfInBounds_toArray, List.set_cons_zero, List.set_cons_succ]
                      rfl
                     refine pure_ (i := 9) (N := some 121) (v := ?_) (a' := ?_) #[true, true, true, true, true, true, true, true, true, true, false, false, false, false, false, false] rfl rfl (any_of HT_.1 (by kernel_rfl)) (fun _ _ _ h => h) (Or.inl ⟨by rfl, ?_⟩) ?_ ?_
                     rotate_left
                     ·intro w'
                      go_simp
                      with_reducible rfl
                     rotate_left
                     ·simp only [Act.put, List.setIfInBounds_toArray, List.set_cons_zero, List.set_cons_succ, i64_w, i32_w]
                      rfl
                     refine pure_ (i := 10) (N := some 122) (v := ?_) (a' := ?_) #[true, true, true, true, true, true, true, true, true, true, true, false, false, false, false, false] rfl rfl (any_of HT_.1 (by kernel_rfl)) (fun _ _ _ h => h) (Or.inl ⟨by rfl, ?_⟩) ?_ ?_
                     rotate_left
                     ·intro w'
                      go_simp
                      with_reducible rfl
                     rotate_left
                     ·simp only [Act.put, List.setIfInBounds_toArray, List.set_cons_zero, List.set_cons_succ, i64_w, i32_w]
                      rfl
                     refine take_ (i := 11) (N := some 123) (v := ?_) (a' := ?_) #[true, true, true, true, true, true, true, true, true, true, true, true, false, false, false, false] rfl rfl (take_ofW HT_.1 HW_.1 (by kernel_rfl)) (fun _ _ _ h => h) (Or.inl ⟨by rfl, ?_⟩) hHeld ?_ ?_
                     rotate_left
                     ·rintro w' ⟨s0, s1, s2⟩
                      go_simp
                      with_reducible rfl
                     rotate_left
                     ·simp only [Act.put, List.setIfInBounds_toArray, List.set_cons_zero, List.set_cons_succ, i64_w, i32_w]
                      rfl
                     refine one_ (i := 12) (N := some 124) #[true, true, true, true, true, true, true, true, true, true, true, true, true, false, false, false] rfl rfl (one_of HT_.1 (by kernel_rfl)) (by decide) (fun K hK => ?_)
                     refine goes_ Tryz.func75 (by kernel_rfl) rfl #[.agg #[.int .i64 t162, .slice Ao123 x159001_2.length co123, .string (strOfNums ((l0.take ((ji96) : Int).toNat).drop (t153 : Int).toNat))]] (by rfl) rfl rfl (by (try simp only [List.map_toArray, List.map_cons, List.map_nil]); first | done | (simp only [hji96]; rfl) | rfl | (simp only [List.length_drop, List.length_take]; rfl)) ?_
                     with_reducible refine (spec_PutResp.calls kj86 t162 _ _ x159001_2 (strOfNums ((l0.take ((ji96) : Int).toNat).drop (t153 : Int).toNat)) t175 _ ?side1 ?side2 A100.1).mono ?_
                     (case side1 => repeat (first | exact (Kd.R_reads' HO_159001.1).2.2 | (with_reducible refine Kd.C_alloc ?_ _) | (with_reducible refine Kd.C_drewN ?_ _) | (with_reducible refine Kd.C_drew ?_)))
                     (case side2 => exact (Kd.R_reads' HO_159001.1).2.1)
                     rintro e w131 ⟨v180, rfl, ho0, hb⟩
                     refine ⟨_, rfl, ?_⟩
                     have n0_ := Aside0.mk (Kd.R_below (by (with_reducible repeat (first | apply rA_ | apply rN_ | apply rD_)); exact HO_159001.1) hb)
                     have n1_ := Aside0.mk (Kd.R_elder' (by (with_reducible repeat (first | apply rA_ | apply rN_ | apply rD_)); exact HO177.1) (Kd.R_base ho0) hb)
                     have n2_ := Aside0.mk (Kd.R_lower (Kd.R_new' ho0 (Kd.R_lt (by (with_reducible repeat (first | apply rA_ | apply rN_ | apply rD_)); exact HO177.1))) (below_size (by repeat (first | (with_reducible first | exact HB.1 | apply aB_ | apply pN_ | apply dB_ | refine sB_ ?_ GE152.1 | refine sB_ ?_ GE158.1) | exact HB.1))))
                     have n3_ := Aside0.mk (bB_ (g := gb152) (o := .cells #[.int .i64 x153000_2, .slice none 0 0, .string x153002_2] 25 (0, 0)) (by (with_reducible repeat (first | refine bN_ ?_ _ | refine bD_ ?_ | refine bA_ ?_ _)); exact BK152.1) hb)
                     have n4_ := Aside0.mk (bB_ (g := gb158) (o := .cells #[.int .i64 t162, .slice Ao123 x159001_2.length co123, .string (strOfNums ((l0.take ((ji96) : Int).toNat).drop (t153 : Int).toNat))] 25 (0, 0)) (by (with_reducible repeat (first | refine bN_ ?_ _ | refine bD_ ?_ | refine bA_ ?_ _)); exact BK158.1) hb)
                     have n5_ := Aside0.mk (below_step (by repeat (first | (with_reducible first | exact HB.1 | apply aB_ | apply pN_ | apply dB_ | refine sB_ ?_ GE152.1 | refine sB_ ?_ GE158.1) | exact HB.1)) hb)
                     clear HO_159001 HO177 BK152 BK158 HB
                     have HO_159001 := n0_
                     have HO177 := n1_
                     have HO181 := n2_
                     have BK152 := n3_
                     have BK158 := n4_
                     have HB := n5_
                     clear n0_ n1_ n2_ n3_ n4_ n5_
                     (try clear hb)
                     (try clear hb2)
                     (try clear hk)
                     (try clear hi)
                     (try clear ho0)
                     obtain ⟨Ao132, co132, eo132⟩ := Kd.R_slice HO181.1
                     (first | subst eo132 | (injection eo132 with f1_ f2_ f3_; have f4_ := f1_.symm; have f5_ := f3_.symm; clear f1_ f2_ f3_; subst f4_; subst f5_))
                     refine hK.out _ _ ⟨(bc_ BK158.1 0).trans rfl, (bc_ BK158.1 1).trans rfl, (bc_ BK158.1 2).trans rfl⟩ (fun hHeld => ?_)
                     clear hK K
                     refine norm_ (a' := ?_) ?_ ?_
                     rotate_left
                     ·show Act.put _ (some 124) _ = _
                      simp only [Act.put, List.setIfInBounds_toArray, List.set_cons_zero, List.set_cons_succ, i64_w, i32_w]
                      rfl
                     refine pure_ (i := 13) (N := some 125) (v := ?_) (a' := ?_) #[true, true, true, true, true, true, true, true, true, true, true, true, true, true, false, false] rfl rfl (any_of HT_.1 (by kernel_rfl)) (fun _ _ _ h => h) (Or.inl ⟨by rfl, ?_⟩) ?_ ?_
                     rotate_left
                     ·intro w'
                      go_simp
                      with_reducible rfl
                     rotate_left
                     ·simp only [Act.put, List.setIfInBounds_toArray, List.set_cons_zero, List.set_cons_succ, i64_w, i32_w]
                      rfl
                     refine pure_ (i := 14) (N := some 126) (v := ?_) (a' := ?_) #[true, true, true, true, true, true, true, true, true, true, true, true, true, true, true, false] rfl rfl (any_of HT_.1 (by kernel_rfl)) (fun _ _ _ h => h) (Or.inl ⟨by rfl, ?_⟩) ?_ ?_
                     rotate_left
                     ·intro w'
                      go_simp
                      with_reducible rfl
                     rotate_left
                     ·simp only [Act.put, List.setIfInBounds_toArray, List.set_cons_zero, List.set_cons_succ, i64_w, i32_w]
                      rfl
                     refine pure_ (i := 15) (N := some 127) (v := ?_) (a' := ?_) #[true, true, true, true, true, true, true, true, true, true, true, true, true, true, true, true] rfl rfl (any_of HT_.1 (by kernel_rfl)) (fun _ _ _ h => h) (Or.inl ⟨by rfl, ?_⟩) ?_ ?_
                     rotate_left
                     ·intro w'
                      go_simp
                      with_reducible rfl
                     rotate_left
                     ·simp only [Act.put, List.setIfInBounds_toArray, List.set_cons_zero, List.set_cons_succ, i64_w, i32_w]
                      rfl
                     refine done_ (done_of HT_.1 (by kernel_rfl)) ?_
                     have hcz133_0 : w131.cell? ⟨gb158, 0, none⟩ = some (.int .i64 t162) := (bc_ BK158.1 0).trans rfl
                     have hcz133_1 : w131.cell? ⟨gb158, 1, none⟩ = some (.slice Ao123 x159001_2.length co123) := (bc_ BK158.1 1).trans rfl
                     have hcz133_2 : w131.cell? ⟨gb158, 2, none⟩ = some (.string (strOfNums ((l0.take ((ji96) : Int).toNat).drop (t153 : Int).toNat))) := (bc_ BK158.1 2).trans rfl
                     have hfz133_0 := bF_ BK158.1 0
                     have hfz133_1 := bF_ BK158.1 1
                     have hfz133_2 := bF_ BK158.1 2
                     have hcz134_0 : w131.cell? ⟨gb152, 0, none⟩ = some (.int .i64 x153000_2) := (bc_ BK152.1 0).trans rfl
                     have hcz134_1 : w131.cell? ⟨gb152, 1, none⟩ = some (.slice none 0 0) := (bc_ BK152.1 1).trans rfl
                     have hcz134_2 : w131.cell? ⟨gb152, 2, none⟩ = some (.string x153002_2) := (bc_ BK152.1 2).trans rfl
                     have hfz134_0 := bF_ BK152.1 0
                     have hfz134_1 := bF_ BK152.1 1
                     have hfz134_2 := bF_ BK152.1 2
                     try go_wp2
                     refine bodyPost_ret (results_ctt rfl _ _ gb152 25 #[.int .i64 t162, .slice Ao123 x159001_2.length co123, .string (strOfNums ((l0.take ((ji96) : Int).toNat).drop (t153 : Int).toNat))] (0, 0) _ rfl (by (with_reducible repeat (first | refine bN_ ?_ _ | refine bD_ ?_ | refine bA_ ?_ _)); refine blk_put (cs := #[.int .i64 t162, .slice Ao123 x159001_2.length co123, .string x153002_2]) ?_ 2 _ rfl; (with_reducible repeat (first | refine bN_ ?_ _ | refine bD_ ?_ | refine bA_ ?_ _)); refine blk_put (cs := #[.int .i64 t162, .slice none 0 0, .string x153002_2]) ?_ 1 _ rfl; (with_reducible repeat (first | refine bN_ ?_ _ | refine bD_ ?_ | refine bA_ ?_ _)); refine blk_put (cs := #[.int .i64 x153000_2, .slice none 0 0, .string x153002_2]) ?_ 0 _ rfl; (with_reducible repeat (first | refine bN_ ?_ _ | refine bD_ ?_ | refine bA_ ?_ _)); exact BK152.1) Tryz.underlying25 rfl (by kernel_rfl)) rfl ?_
                     exact ⟨_, by first | rfl | (simp [errW_none, errW_some] <;> rfl) | (simp only [← hji6, ← hji96]; first | rfl | (simp [errW_none, errW_some] <;> rfl)) | (simp [*, errW_none, errW_some] <;> rfl), by (with_reducible repeat (first | apply rA_ | apply rN_ | apply rD_)); exact Kd.R_mono (rF_ (p := ⟨gb152, 2, none⟩) (rF_ (p := ⟨gb152, 1, none⟩) (rF_ (p := ⟨gb152, 0, none⟩) (Kd.R_types HO_159001.1 BK152.1 (by decide)) (fun _ hk => hk.2) (.int .i64 t162)) (fun _ hk => hk.2) (.slice Ao123 x159001_2.length co123)) (fun _ hk => hk.2) (.string (strOfNums ((l0.take ((ji96) : Int).toNat).drop (t153 : Int).toNat)))) (fun _ hk => trivial), by repeat (first | (with_reducible first | exact HB.1 | apply aB_ | apply pN_ | apply dB_ | refine sB_ ?_ GE152.1 | refine sB_ ?_ GE158.1) | exact HB.1)⟩
                   ·rw [if_neg c99] at H
                    have c99b0 : ((strOfNums t175).toList == (strOfNums (l0.take ((ji96) : Int).toNat)).toList) = false := beq_eq_false_iff_ne.mpr c99
                    have c99b1 : ((strOfNums t175).toList != (strOfNums (l0.take ((ji96) : Int).toNat)).toList) = true := bne_iff_ne.mpr c99
                    simp only [Option.some.injEq, Prod.mk.injEq] at H
                    obtain ⟨rfl, rfl, rfl, rfl, rfl⟩ := H
                    obtain ⟨i0135, hi0135, _, hsz135, _⟩ := info_parts info5
                    obtain ⟨A135, hcut135, hA135, hC135⟩ := print_mid_of (P := Tryz.prog) (Value.int .u8) 0 22 5 .i64 .i64 Tryz.underlying22 hi0135 hsz135 A0 c0 l0 t153 (ji96) (of_decide_eq_true (by first | (with_reducible assumption) | assumption)) (by first | omega | exact of_decide_eq_true (by first | (with_reducible assumption) | assumption)) (of_decide_eq_true (by first | (with_reducible assumption) | assumption)) HC0.1
                    have HR174 := Aside0.mk (Kd.C_of_reads (h1 := fun _ => rfl) (hA135 _ (Kd.reads_of_C HR0.1)))
                    have HC174 := Aside0.mk hC135
                    clear hA135 hC135 hi0135 hsz135
                    have hq_ := (Kd.C_below HR174.1 HB.1)
                    rw [show ((l0.take ((ji96) : Int).toNat).drop (t153 : Int).toNat).length = ((ji96).toNat - t153.toNat) from (by rw [List.length_drop, List.length_take]; have h_ : ((ji96) : Int) ≤ (l0.length : Int) := of_decide_eq_true (by first | (with_reducible assumption) | assumption); omega)] at hq_
                    have hcv136 := Kd.C_string (P := Tryz.prog) (A := A135) (c := (c0 - t153.toNat)) Tryz.underlying22 Tryz.underlying5 Tryz.underlying9 hq_
                    have hcv137 := fun nq_ : Nat => Kd.C_string (P := Tryz.prog) (A := A135) (c := (c0 - t153.toNat)) Tryz.underlying22 Tryz.underlying5 Tryz.underlying9 (Kd.C_drewN hq_ nq_)
                    clear hq_
                    have hnb138 := NB158_152.1
                    have hnc138 := NB152_158.1
                    have hcz139_0 : wc.cell? ⟨gb158, 0, none⟩ = some (.int .i64 t162) := (bc_ BK158.1 0).trans rfl
                    have hcz139_1 : wc.cell? ⟨gb158, 1, none⟩ = some (u159001) := (bc_ BK158.1 1).trans rfl
                    have hcz139_2 : wc.cell? ⟨gb158, 2, none⟩ = some (.string (⟨#[]⟩ : ByteArray)) := (bc_ BK158.1 2).trans rfl
                    have hfz139_0 := bF_ BK158.1 0
                    have hfz139_1 := bF_ BK158.1 1
                    have hfz139_2 := bF_ BK158.1 2
                    obtain ⟨Ao140, co140, eo140⟩ := Kd.R_slice HO_159001.1
                    subst eo140
                    try go_wp2
                    have n0_ : Aside0 (Kd.R k88 88 (wc.setCell ⟨gb158, 2, none⟩ (.string (strOfNums ((l0.take ((ji96) : Int).toNat).drop (t153 : Int).toNat)))) w.heap.size (fun _ => True) (.slice Ao140 x159001_2.length co140) x159001_2) := ⟨by (with_reducible repeat (first | apply rA_ | apply rN_ | apply rD_)); exact Kd.R_mono (rF_ (p := ⟨gb158, 2, none⟩) (Kd.R_types HO_159001.1 BK158.1 (by decide)) (fun _ hk => hk.2) (.string (strOfNums ((l0.take ((ji96) : Int).toNat).drop (t153 : Int).toNat)))) (fun _ hk => trivial)⟩
                    have n1_ : Aside0 ((wc.setCell ⟨gb158, 2, none⟩ (.string (strOfNums ((l0.take ((ji96) : Int).toNat).drop (t153 : Int).toNat)))).heap[gb152]? = some (.cells #[.int .i64 x153000_2, .slice none 0 0, .string x153002_2] 25 (0, 0))) := ⟨by (with_reducible repeat (first | refine bN_ ?_ _ | refine bD_ ?_ | refine bA_ ?_ _)); refine blk_far ?_ NB152_158.1 _; (with_reducible repeat (first | refine bN_ ?_ _ | refine bD_ ?_ | refine bA_ ?_ _)); exact BK152.1⟩
                    have n2_ : Aside0 ((wc.setCell ⟨gb158, 2, none⟩ (.string (strOfNums ((l0.take ((ji96) : Int).toNat).drop (t153 : Int).toNat)))).heap[gb158]? = some (.cells #[.int .i64 t162, .slice Ao140 x159001_2.length co140, .string (strOfNums ((l0.take ((ji96) : Int).toNat).drop (t153 : Int).toNat))] 25 (0, 0))) := ⟨by (with_reducible repeat (first | refine bN_ ?_ _ | refine bD_ ?_ | refine bA_ ?_ _)); refine blk_put (cs := #[.int .i64 t162, .slice Ao140 x159001_2.length co140, .string (⟨#[]⟩ : ByteArray)]) ?_ 2 _ rfl; (with_reducible repeat (first | refine bN_ ?_ _ | refine bD_ ?_ | refine bA_ ?_ _)); exact BK158.1⟩
                    have n3_ : Aside0 (Below w.heap.size w (wc.setCell ⟨gb158, 2, none⟩ (.string (strOfNums ((l0.take ((ji96) : Int).toNat).drop (t153 : Int).toNat))))) := ⟨by repeat (first | (with_reducible first | exact HB.1 | apply aB_ | apply pN_ | apply dB_ | refine sB_ ?_ GE152.1 | refine sB_ ?_ GE158.1) | exact HB.1)⟩
                    (try clear HO_159001)
                    (try clear BK152)
                    (try clear BK158)
                    (try clear HB)
                    generalize (wc.setCell ⟨gb158, 2, none⟩ (.string (strOfNums ((l0.take ((ji96) : Int).toNat).drop (t153 : Int).toNat)))) = w141 at n0_ n1_ n2_ n3_ ⊢
                    have HO_159001 := n0_
                    have BK152 := n1_
                    have BK158 := n2_
                    have HB := n3_
                    clear n0_ n1_ n2_ n3_
                    have n0_ := Aside0.mk (rD_ HO_159001.1)
                    have n1_ := Aside0.mk (bD_ BK152.1)
                    have n2_ := Aside0.mk (bD_ BK158.1)
                    have n3_ := Aside0.mk (dB_ HB.1)
                    clear HO_159001 BK152 BK158 HB
                    have HO_159001 := n0_
                    have BK152 := n1_
                    have BK158 := n2_
                    have HB := n3_
                    clear n0_ n1_ n2_ n3_
                    obtain ⟨i0143, hi0143, _, hsz143, _⟩ := info_parts info5
                    obtain ⟨hcut143, hA143, hC143⟩ := print_take_of (P := Tryz.prog) (Value.int .u8) 0 22 5 .i64 Tryz.underlying22 hi0143 hsz143 A0 c0 l0 (ji96) (of_decide_eq_true (by first | (with_reducible assumption) | assumption)) (of_decide_eq_true (by first | (with_reducible assumption) | assumption)) HC0.1
                    have HR178 := Aside0.mk (Kd.C_of_reads (h1 := fun _ => rfl) (hA143 _ (Kd.reads_of_C HR0.1)))
                    have HC178 := Aside0.mk hC143
                    clear hA143 hC143 hi0143 hsz143
                    refine start_ (n := 16) (S := fun w' => w'.cell? ⟨gb158, 0, none⟩ = some (.int .i64 t162) ∧ w'.cell? ⟨gb158, 1, none⟩ = some (.slice Ao140 x159001_2.length co140) ∧ w'.cell? ⟨gb158, 2, none⟩ = some (.string (strOfNums ((l0.take ((ji96) : Int).toNat).drop (t153 : Int).toNat)))) (ds := []) #[false, false, false, false, false, false, false, false, false, false, false, false, false, false, false, false] (by kernel_rfl) rfl rfl ⟨(bc_ BK158.1 0).trans rfl, (bc_ BK158.1 1).trans rfl, (bc_ BK158.1 2).trans rfl⟩ (fun hHeld => ?_); refine with_tabW spec_GetResp.tab24 spec_GetResp.bits24 (fun HT_ HW_ => ?_)
                    generalize w141.drew = w142 at HO_159001 BK152 BK158 HB HR178 hHeld ⊢
                    refine pure_ (i := 3) (N := some 115) (v := ?_) (a' := ?_) #[false, false, false, true, false, false, false, false, false, false, false, false, false, false, false, false] rfl rfl (any_of HT_.1 (by kernel_rfl)) (fun _ _ _ h => h) (Or.inl ⟨by rfl, ?_⟩) ?_ ?_
                    rotate_left
                    ·intro w'
                     go_simp
                     with_reducible rfl
                    rotate_left
                    ·simp only [Act.put, List.setIfInBounds_toArray, List.set_cons_zero, List.set_cons_succ, i64_w, i32_w]
                     rfl
                    refine pure_ (i := 4) (N := some 116) (v := ?_) (a' := ?_) #[false, false, false, true, true, false, false, false, false, false, false, false, false, false, false, false] rfl rfl (any_of HT_.1 (by kernel_rfl)) (fun _ _ _ h => h) (Or.inl ⟨by rfl, ?_⟩) ?_ ?_
                    rotate_left
                    ·intro w'
                     go_simp
                     with_reducible rfl
                    rotate_left
                    ·simp only [Act.put, List.setIfInBounds_toArray, List.set_cons_zero, List.set_cons_succ, i64_w, i32_w]
                     rfl
                    refine pure_ (i := 5) (N := some 117) (v := ?_) (a' := ?_) #[false, false, false, true, true, true, false, false, false, false, false, false, false, false, false, false] rfl rfl (any_of HT_.1 (by kernel_rfl)) (fun _ _ _ h => h) (Or.inl ⟨by rfl, ?_⟩) ?_ ?_
                    rotate_left
                    ·intro w'
                     go_simp
                     with_reducible rfl
                    rotate_left
                    ·simp only [Act.put, List.setIfInBounds_toArray, List.set_cons_zero, List.set_cons_succ, i64_w, i32_w]
                     rfl
                    refine pure_ (i := 6) (N := some 118) (v := ?_) (a' := ?_) #[false, false, false, true, true, true, true, false, false, false, false, false, false, false, false, false] rfl rfl (any_of HT_.1 (by kernel_rfl)) (fun _ _ _ h => h) (Or.inl ⟨by rfl, ?_⟩) ?_ ?_
                    rotate_left
                    ·intro w'
                     go_simp
                     with_reducible rfl
                    rotate_left
                    ·simp only [Act.put, List.setIfInBounds_toArray, List.set_cons_zero, List.set_cons_succ, i64_w, i32_w]
                     rfl
                    refine pure_ (i := 7) (N := some 119) (v := ?_) (a' := ?_) #[false, false, false, true, true, true, true, true, false, false, false, false, false, false, false, false] rfl rfl (any_of HT_.1 (by kernel_rfl)) (fun _ _ _ h => h) (Or.inl ⟨by rfl, ?_⟩) ?_ ?_
                    rotate_left
                    ·intro w'
                     go_simp
                     with_reducible rfl
                    rotate_left
                    ·simp only [Act.put, List.setIfInBounds_toArray, List.set_cons_zero, List.set_cons_succ, i64_w, i32_w]
                     rfl
                    refine take_ (i := 0) (N := some 112) (v := ?_) (a' := ?_) #[true, false, false, true, true, true, true, true, false, false, false, false, false, false, false, false] rfl rfl (take_ofW HT_.1 HW_.1 (by kernel_rfl)) (fun _ _ _ h => h) (Or.inl ⟨by rfl, ?_⟩) hHeld ?_ ?_
                    rotate_left
                    ·rintro w' ⟨s0, s1, s2⟩
                     go_simp
                     with_reducible rfl
                    rotate_left
                    ·simp only [Act.put, List.setIfInBounds_toArray, List.set_cons_zero, List.set_cons_succ, i64_w, i32_w]
                     rfl
                    refine join_ (σ := Value) 7 #[true, true, true, true, true, true, true, true, true, false, false, false, false, false, false, false] (fun s_ => [(113, s_), (114, .string (strOfNums t175)), (120, .string (strOfNums (l0.take ((ji96) : Int).toNat)))]) (fun s_ w' => (w'.cell? ⟨gb158, 0, none⟩ = some (.int .i64 t162) ∧ w'.cell? ⟨gb158, 1, none⟩ = some (.slice Ao140 x159001_2.length co140) ∧ w'.cell? ⟨gb158, 2, none⟩ = some (.string (strOfNums ((l0.take ((ji96) : Int).toNat).drop (t153 : Int).toNat)))) ∧ (Kd.R (Kd.int .u8) 5 w' w.heap.size (fun _ => True) s_ t175) ∧ (Kd.R k88 88 w' w.heap.size (fun _ => True) (.slice Ao140 x159001_2.length co140) x159001_2) ∧ (w'.heap[gb152]? = some (.cells #[.int .i64 x153000_2, .slice none 0 0, .string x153002_2] 25 (0, 0))) ∧ (w'.heap[gb158]? = some (.cells #[.int .i64 t162, .slice Ao140 x159001_2.length co140, .string (strOfNums ((l0.take ((ji96) : Int).toNat).drop (t153 : Int).toNat))] 25 (0, 0))) ∧ (Below w.heap.size w w')) ?_ ?_
                    rotate_left
                    ·intro hCont
                     refine two_ (i := 1) (j := 8) (Ni := some 113) (Nj := some 120) #[true, true, false, true, true, true, true, true, false, false, false, false, false, false, false, false] #[true, false, false, true, true, true, true, true, true, false, false, false, false, false, false, false] rfl rfl rfl rfl (two_of HT_.1 (by kernel_rfl)) (by decide) (by decide) (fun K hK => ?_) (fun K hK => ?_)
                     ·skip
                      refine goes_ Tryz.func75 (by kernel_rfl) rfl #[.agg #[.int .i64 t162, .slice Ao140 x159001_2.length co140, .string (strOfNums ((l0.take ((ji96) : Int).toNat).drop (t153 : Int).toNat))]] (by rfl) rfl rfl (by (try simp only [List.map_toArray, List.map_cons, List.map_nil]); first | done | (simp only [hji96]; rfl) | rfl | (simp only [List.length_drop, List.length_take]; rfl)) ?_
                      with_reducible refine (spec_PutResp.calls kj86 t162 _ _ x159001_2 (strOfNums ((l0.take ((ji96) : Int).toNat).drop (t153 : Int).toNat)) t175 _ ?side1 ?side2 A95.1).mono ?_
                      (case side1 => repeat (first | exact (Kd.R_reads' HO_159001.1).2.2 | (with_reducible refine Kd.C_alloc ?_ _) | (with_reducible refine Kd.C_drewN ?_ _) | (with_reducible refine Kd.C_drew ?_)))
                      (case side2 => exact (Kd.R_reads' HO_159001.1).2.1)
                      rintro e w144 ⟨v176, rfl, ho0, hb⟩
                      refine ⟨_, rfl, ?_⟩
                      have n0_ := Aside0.mk (Kd.R_below (by (with_reducible repeat (first | apply rA_ | apply rN_ | apply rD_)); exact HO_159001.1) hb)
                      have n1_ := Aside0.mk (Kd.R_lower ho0 (below_size (by repeat (first | (with_reducible first | exact HB.1 | apply aB_ | apply pN_ | apply dB_ | refine sB_ ?_ GE152.1 | refine sB_ ?_ GE158.1) | exact HB.1))))
                      have n2_ := Aside0.mk (bB_ (g := gb152) (o := .cells #[.int .i64 x153000_2, .slice none 0 0, .string x153002_2] 25 (0, 0)) (by (with_reducible repeat (first | refine bN_ ?_ _ | refine bD_ ?_ | refine bA_ ?_ _)); exact BK152.1) hb)
                      have n3_ := Aside0.mk (bB_ (g := gb158) (o := .cells #[.int .i64 t162, .slice Ao140 x159001_2.length co140, .string (strOfNums ((l0.take ((ji96) : Int).toNat).drop (t153 : Int).toNat))] 25 (0, 0)) (by (with_reducible repeat (first | refine bN_ ?_ _ | refine bD_ ?_ | refine bA_ ?_ _)); exact BK158.1) hb)
                      have n4_ := Aside0.mk (below_step (by repeat (first | (with_reducible first | exact HB.1 | apply aB_ | apply pN_ | apply dB_ | refine sB_ ?_ GE152.1 | refine sB_ ?_ GE158.1) | exact HB.1)) hb)
                      clear HO_159001 BK152 BK158 HB
                      have HO_159001 := n0_
                      have HO177 := n1_
                      have BK152 := n2_
                      have BK158 := n3_
                      have HB := n4_
                      clear n0_ n1_ n2_ n3_ n4_
                      (try clear hb)
                      (try clear hb2)
                      (try clear hk)
                      (try clear hi)
                      (try clear ho0)
                      refine hK.out _ _ ⟨(bc_ BK158.1 0).trans rfl, (bc_ BK158.1 1).trans rfl, (bc_ BK158.1 2).trans rfl⟩ (fun hHeld => ?_)
                      clear hK K
                      refine norm_ (a' := ?_) ?_ ?_
                      rotate_left
                      ·show Act.put _ (some 113) _ = _
                       simp only [Act.put, List.setIfInBounds_toArray, List.set_cons_zero, List.set_cons_succ, i64_w, i32_w]
                       rfl
                      refine two_ (i := 2) (j := 8) (Ni := some 114) (Nj := some 120) #[true, true, true, true, true, true, true, true, false, false, false, false, false, false, false, false] #[true, true, false, true, true, true, true, true, true, false, false, false, false, false, false, false] rfl rfl rfl rfl (two_of HT_.1 (by kernel_rfl)) (by decide) (by decide) (fun K hK => ?_) (fun K hK => ?_)
                      ·skip
                       have hcv145 := own_string (P := Tryz.prog) Tryz.underlying22 Tryz.underlying5 Tryz.underlying9 (Kd.own_of_R HO177.1)
                       refine value_ (w1 := ?_) (v := ?_) (by rfl) rfl ?_ ?_
                       rotate_left 2
                       ·go_simp
                        constructor
                        ·rfl
                        ·rfl
                       clear hcv145
                       refine hK.out _ _ ⟨(bc_ BK158.1 0).trans rfl, (bc_ BK158.1 1).trans rfl, (bc_ BK158.1 2).trans rfl⟩ (fun hHeld => ?_)
                       clear hK K
                       refine norm_ (a' := ?_) ?_ ?_
                       rotate_left
                       ·show Act.put _ (some 114) _ = _
                        simp only [Act.put, List.setIfInBounds_toArray, List.set_cons_zero, List.set_cons_succ, i64_w, i32_w]
                        rfl
                       refine one_ (i := 8) (N := some 120) #[true, true, true, true, true, true, true, true, true, false, false, false, false, false, false, false] rfl rfl (one_of HT_.1 (by kernel_rfl)) (by decide) (fun K hK => ?_)
                       (have hq_ := (Kd.C_below HR178.1 HB.1); rw [show (l0.take ((ji96) : Int).toNat).length = (ji96).toNat from (by rw [List.length_take]; have h_ : ((ji96) : Int) ≤ (l0.length : Int) := of_decide_eq_true (by first | (with_reducible assumption) | assumption); omega)] at hq_; have hcv146 := Kd.C_string (P := Tryz.prog) (A := A0) (c := c0) Tryz.underlying22 Tryz.underlying5 Tryz.underlying9 hq_; clear hq_)
                       refine value_ (w1 := ?_) (v := ?_) (by rfl) rfl ?_ ?_
                       rotate_left 2
                       ·go_simp
                        constructor
                        ·rfl
                        ·rfl
                       clear hcv146
                       refine hK.out _ _ ⟨(bc_ BK158.1 0).trans rfl, (bc_ BK158.1 1).trans rfl, (bc_ BK158.1 2).trans rfl⟩ (fun hHeld => ?_)
                       clear hK K
                       refine norm_ (a' := ?_) ?_ ?_
                       rotate_left
                       ·show Act.put _ (some 120) _ = _
                        simp only [Act.put, List.setIfInBounds_toArray, List.set_cons_zero, List.set_cons_succ, i64_w, i32_w]
                        rfl
                       exact norm_ (by simp only [putAll, Act.put, List.setIfInBounds_toArray, List.set_cons_zero, List.set_cons_succ]) (hCont (v176) _ ⟨hHeld, (by (with_reducible repeat (first | apply rA_ | apply rN_ | apply rD_)); exact HO177.1), (by (with_reducible repeat (first | apply rA_ | apply rN_ | apply rD_)); exact HO_159001.1), (by (with_reducible repeat (first | refine bN_ ?_ _ | refine bD_ ?_ | refine bA_ ?_ _)); exact BK152.1), (by (with_reducible repeat (first | refine bN_ ?_ _ | refine bD_ ?_ | refine bA_ ?_ _)); exact BK158.1), (by repeat (first | (with_reducible first | exact HB.1 | apply aB_ | apply pN_ | apply dB_ | refine sB_ ?_ GE152.1 | refine sB_ ?_ GE158.1) | exact HB.1))⟩)
                      ·skip
                       (have hq_ := (Kd.C_below HR178.1 HB.1); rw [show (l0.take ((ji96) : Int).toNat).length = (ji96).toNat from (by rw [List.length_take]; have h_ : ((ji96) : Int) ≤ (l0.length : Int) := of_decide_eq_true (by first | (with_reducible assumption) | assumption); omega)] at hq_; have hcv145 := Kd.C_string (P := Tryz.prog) (A := A0) (c := c0) Tryz.underlying22 Tryz.underlying5 Tryz.underlying9 hq_; clear hq_)
                       refine value_ (w1 := ?_) (v := ?_) (by rfl) rfl ?_ ?_
                       rotate_left 2
                       ·go_simp
                        constructor
                        ·rfl
                        ·rfl
                       clear hcv145
                       refine hK.out _ _ ⟨(bc_ BK158.1 0).trans rfl, (bc_ BK158.1 1).trans rfl, (bc_ BK158.1 2).trans rfl⟩ (fun hHeld => ?_)
                       clear hK K
                       refine norm_ (a' := ?_) ?_ ?_
                       rotate_left
                       ·show Act.put _ (some 120) _ = _
                        simp only [Act.put, List.setIfInBounds_toArray, List.set_cons_zero, List.set_cons_succ, i64_w, i32_w]
                        rfl
                       refine one_ (i := 2) (N := some 114) #[true, true, true, true, true, true, true, true, true, false, false, false, false, false, false, false] rfl rfl (one_of HT_.1 (by kernel_rfl)) (by decide) (fun K hK => ?_)
                       have hcv146 := own_string (P := Tryz.prog) Tryz.underlying22 Tryz.underlying5 Tryz.underlying9 (Kd.own_of_R HO177.1)
                       refine value_ (w1 := ?_) (v := ?_) (by rfl) rfl ?_ ?_
                       rotate_left 2
                       ·go_simp
                        constructor
                        ·rfl
                        ·rfl
                       clear hcv146
                       refine hK.out _ _ ⟨(bc_ BK158.1 0).trans rfl, (bc_ BK158.1 1).trans rfl, (bc_ BK158.1 2).trans rfl⟩ (fun hHeld => ?_)
                       clear hK K
                       refine norm_ (a' := ?_) ?_ ?_
                       rotate_left
                       ·show Act.put _ (some 114) _ = _
                        simp only [Act.put, List.setIfInBounds_toArray, List.set_cons_zero, List.set_cons_succ, i64_w, i32_w]
                        rfl
                       exact norm_ (by simp only [putAll, Act.put, List.setIfInBounds_toArray, List.set_cons_zero, List.set_cons_succ]) (hCont (v176) _ ⟨hHeld, (by (with_reducible repeat (first | apply rA_ | apply rN_ | apply rD_)); exact HO177.1), (by (with_reducible repeat (first | apply rA_ | apply rN_ | apply rD_)); exact HO_159001.1), (by (with_reducible repeat (first | refine bN_ ?_ _ | refine bD_ ?_ | refine bA_ ?_ _)); exact BK152.1), (by (with_reducible repeat (first | refine bN_ ?_ _ | refine bD_ ?_ | refine bA_ ?_ _)); exact BK158.1), (by repeat (first | (with_reducible first | exact HB.1 | apply aB_ | apply pN_ | apply dB_ | refine sB_ ?_ GE152.1 | refine sB_ ?_ GE158.1) | exact HB.1))⟩)
                     ·skip
                      (have hq_ := (Kd.C_below HR178.1 HB.1); rw [show (l0.take ((ji96) : Int).toNat).length = (ji96).toNat from (by rw [List.length_take]; have h_ : ((ji96) : Int) ≤ (l0.length : Int) := of_decide_eq_true (by first | (with_reducible assumption) | assumption); omega)] at hq_; have hcv144 := Kd.C_string (P := Tryz.prog) (A := A0) (c := c0) Tryz.underlying22 Tryz.underlying5 Tryz.underlying9 hq_; clear hq_)
                      refine value_ (w1 := ?_) (v := ?_) (by rfl) rfl ?_ ?_
                      rotate_left 2
                      ·go_simp
                       constructor
                       ·rfl
                       ·rfl
                      clear hcv144
                      refine hK.out _ _ ⟨(bc_ BK158.1 0).trans rfl, (bc_ BK158.1 1).trans rfl, (bc_ BK158.1 2).trans rfl⟩ (fun hHeld => ?_)
                      clear hK K
                      refine norm_ (a' := ?_) ?_ ?_
                      rotate_left
                      ·show Act.put _ (some 120) _ = _
                       simp only [Act.put, List.setIfInBounds_toArray, List.set_cons_zero, List.set_cons_succ, i64_w, i32_w]
                       rfl
                      refine one_ (i := 1) (N := some 113) #[true, true, false, true, true, true, true, true, true, false, false, false, false, false, false, false] rfl rfl (one_of HT_.1 (by kernel_rfl)) (by decide) (fun K hK => ?_)
                      refine goes_ Tryz.func75 (by kernel_rfl) rfl #[.agg #[.int .i64 t162, .slice Ao140 x159001_2.length co140, .string (strOfNums ((l0.take ((ji96) : Int).toNat).drop (t153 : Int).toNat))]] (by rfl) rfl rfl (by (try simp only [List.map_toArray, List.map_cons, List.map_nil]); first | done | (simp only [hji96]; rfl) | rfl | (simp only [List.length_drop, List.length_take]; rfl)) ?_
                      with_reducible refine (spec_PutResp.calls kj86 t162 _ _ x159001_2 (strOfNums ((l0.take ((ji96) : Int).toNat).drop (t153 : Int).toNat)) t175 _ ?side1 ?side2 A95.1).mono ?_
                      (case side1 => repeat (first | exact (Kd.R_reads' HO_159001.1).2.2 | (with_reducible refine Kd.C_alloc ?_ _) | (with_reducible refine Kd.C_drewN ?_ _) | (with_reducible refine Kd.C_drew ?_)))
                      (case side2 => exact (Kd.R_reads' HO_159001.1).2.1)
                      rintro e w145 ⟨v176, rfl, ho0, hb⟩
                      refine ⟨_, rfl, ?_⟩
                      have n0_ := Aside0.mk (Kd.R_below (by (with_reducible repeat (first | apply rA_ | apply rN_ | apply rD_)); exact HO_159001.1) hb)
                      have n1_ := Aside0.mk (Kd.R_lower ho0 (below_size (by repeat (first | (with_reducible first | exact HB.1 | apply aB_ | apply pN_ | apply dB_ | refine sB_ ?_ GE152.1 | refine sB_ ?_ GE158.1) | exact HB.1))))
                      have n2_ := Aside0.mk (bB_ (g := gb152) (o := .cells #[.int .i64 x153000_2, .slice none 0 0, .string x153002_2] 25 (0, 0)) (by (with_reducible repeat (first | refine bN_ ?_ _ | refine bD_ ?_ | refine bA_ ?_ _)); exact BK152.1) hb)
                      have n3_ := Aside0.mk (bB_ (g := gb158) (o := .cells #[.int .i64 t162, .slice Ao140 x159001_2.length co140, .string (strOfNums ((l0.take ((ji96) : Int).toNat).drop (t153 : Int).toNat))] 25 (0, 0)) (by (with_reducible repeat (first | refine bN_ ?_ _ | refine bD_ ?_ | refine bA_ ?_ _)); exact BK158.1) hb)
                      have n4_ := Aside0.mk (below_step (by repeat (first | (with_reducible first | exact HB.1 | apply aB_ | apply pN_ | apply dB_ | refine sB_ ?_ GE152.1 | refine sB_ ?_ GE158.1) | exact HB.1)) hb)
                      clear HO_159001 BK152 BK158 HB
                      have HO_159001 := n0_
                      have HO177 := n1_
                      have BK152 := n2_
                      have BK158 := n3_
                      have HB := n4_
                      clear n0_ n1_ n2_ n3_ n4_
                      (try clear hb)
                      (try clear hb2)
                      (try clear hk)
                      (try clear hi)
                      (try clear ho0)
                      refine hK.out _ _ ⟨(bc_ BK158.1 0).trans rfl, (bc_ BK158.1 1).trans rfl, (bc_ BK158.1 2).trans rfl⟩ (fun hHeld => ?_)
                      clear hK K
                      refine norm_ (a' := ?_) ?_ ?_
                      rotate_left
                      ·show Act.put _ (some 113) _ = _
                       simp only [Act.put, List.setIfInBounds_toArray, List.set_cons_zero, List.set_cons_succ, i64_w, i32_w]
                       rfl
                      refine one_ (i := 2) (N := some 114) #[true, true, true, true, true, true, true, true, true, false, false, false, false, false, false, false] rfl rfl (one_of HT_.1 (by kernel_rfl)) (by decide) (fun K hK => ?_)
                      have hcv146 := own_string (P := Tryz.prog) Tryz.underlying22 Tryz.underlying5 Tryz.underlying9 (Kd.own_of_R HO177.1)
                      refine value_ (w1 := ?_) (v := ?_) (by rfl) rfl ?_ ?_
                      rotate_left 2
                      ·go_simp
                       constructor
                       ·rfl
                       ·rfl
                      clear hcv146
                      refine hK.out _ _ ⟨(bc_ BK158.1 0).trans rfl, (bc_ BK158.1 1).trans rfl, (bc_ BK158.1 2).trans rfl⟩ (fun hHeld => ?_)
                      clear hK K
                      refine norm_ (a' := ?_) ?_ ?_
                      rotate_left
                      ·show Act.put _ (some 114) _ = _
                       simp only [Act.put, List.setIfInBounds_toArray, List.set_cons_zero, List.set_cons_succ, i64_w, i32_w]
                       rfl
                      exact norm_ (by simp only [putAll, Act.put, List.setIfInBounds_toArray, List.set_cons_zero, List.set_cons_succ]) (hCont (v176) _ ⟨hHeld, (by (with_reducible repeat (first | apply rA_ | apply rN_ | apply rD_)); exact HO177.1), (by (with_reducible repeat (first | apply rA_ | apply rN_ | apply rD_)); exact HO_159001.1), (by (with_reducible repeat (first | refine bN_ ?_ _ | refine bD_ ?_ | refine bA_ ?_ _)); exact BK152.1), (by (with_reducible repeat (first | refine bN_ ?_ _ | refine bD_ ?_ | refine bA_ ?_ _)); exact BK158.1), (by repeat (first | (with_reducible first | exact HB.1 | apply aB_ | apply pN_ | apply dB_ | refine sB_ ?_ GE152.1 | refine sB_ ?_ GE158.1) | exact HB.1))⟩)
                    rintro v176 w147 ⟨hS_, h0_, h1_, h2_, h3_, h4_⟩
                    have n0_ : Aside0 (Kd.R (Kd.int .u8) 5 w147 w.heap.size (fun _ => True) v176 t175) := ⟨h0_⟩
                    have n1_ : Aside0 (Kd.R k88 88 w147 w.heap.size (fun _ => True) (.slice Ao140 x159001_2.length co140) x159001_2) := ⟨h1_⟩
                    have n2_ : Aside0 (w147.heap[gb152]? = some (.cells #[.int .i64 x153000_2, .slice none 0 0, .string x153002_2] 25 (0, 0))) := ⟨h2_⟩
                    have n3_ : Aside0 (w147.heap[gb158]? = some (.cells #[.int .i64 t162, .slice Ao140 x159001_2.length co140, .string (strOfNums ((l0.take ((ji96) : Int).toNat).drop (t153 : Int).toNat))] 25 (0, 0))) := ⟨h3_⟩
                    have n4_ : Aside0 (Below w.heap.size w w147) := ⟨h4_⟩
                    clear HO_159001 BK152 BK158 HB h0_ h1_ h2_ h3_ h4_
                    have HO177 := n0_
                    have HO_159001 := n1_
                    have BK152 := n2_
                    have BK158 := n3_
                    have HB := n4_
                    clear n0_ n1_ n2_ n3_ n4_
                    have hHeld : w147.cell? ⟨gb158, 0, none⟩ = some (.int .i64 t162) ∧ w147.cell? ⟨gb158, 1, none⟩ = some (.slice Ao140 x159001_2.length co140) ∧ w147.cell? ⟨gb158, 2, none⟩ = some (.string (strOfNums ((l0.take ((ji96) : Int).toNat).drop (t153 : Int).toNat))) := hS_
                    refine norm_ (a' := ?_) ?_ ?_
                    rotate_left
                    ·simp only [putAll, Act.put, List.setIfInBounds_toArray, List.set_cons_zero, List.set_cons_succ]
                     rfl
                    refine pure_ (i := 9) (N := some 121) (v := ?_) (a' := ?_) #[true, true, true, true, true, true, true, true, true, true, false, false, false, false, false, false] rfl rfl (any_of HT_.1 (by kernel_rfl)) (fun _ _ _ h => h) (Or.inl ⟨by rfl, ?_⟩) ?_ ?_
                    rotate_left
                    ·intro w'
                     go_simp
                     with_reducible rfl
                    rotate_left
                    ·simp only [Act.put, List.setIfInBounds_toArray, List.set_cons_zero, List.set_cons_succ, i64_w, i32_w]
                     rfl
                    refine pure_ (i := 10) (N := some 122) (v := ?_) (a' := ?_) #[true, true, true, true, true, true, true, true, true, true, true, false, false, false, false, false] rfl rfl (any_of HT_.1 (by kernel_rfl)) (fun _ _ _ h => h) (Or.inl ⟨by rfl, ?_⟩) ?_ ?_
                    rotate_left
                    ·intro w'
                     go_simp
                     with_reducible rfl
                    rotate_left
                    ·simp only [Act.put, List.setIfInBounds_toArray, List.set_cons_zero, List.set_cons_succ, i64_w, i32_w]
                     rfl
                    refine pure_ (i := 11) (N := some 123) (v := undef) (a' := ?_) #[true, true, true, true, true, true, true, true, true, true, true, true, false, false, false, false] rfl rfl (any_of HT_.1 (by kernel_rfl)) (fun _ _ _ h => h) (Or.inr ⟨by rfl, rfl⟩) ?_ ?_
                    rotate_left
                    ·simp only [Act.put, List.setIfInBounds_toArray, List.set_cons_zero, List.set_cons_succ, i64_w, i32_w]
                     rfl
                    refine pure_ (i := 12) (N := some 124) (v := undef) (a' := ?_) #[true, true, true, true, true, true, true, true, true, true, true, true, true, false, false, false] rfl rfl (any_of HT_.1 (by kernel_rfl)) (fun _ _ _ h => h) (Or.inr ⟨by rfl, rfl⟩) ?_ ?_
                    rotate_left
                    ·simp only [Act.put, List.setIfInBounds_toArray, List.set_cons_zero, List.set_cons_succ, i64_w, i32_w]
                     rfl
                    refine pure_ (i := 13) (N := some 125) (v := undef) (a' := ?_) #[true, true, true, true, true, true, true, true, true, true, true, true, true, true, false, false] rfl rfl (any_of HT_.1 (by kernel_rfl)) (fun _ _ _ h => h) (Or.inr ⟨by rfl, rfl⟩) ?_ ?_
                    rotate_left
                    ·simp only [Act.put, List.setIfInBounds_toArray, List.set_cons_zero, List.set_cons_succ, i64_w, i32_w]
                     rfl
                    refine pure_ (i := 14) (N := some 126) (v := undef) (a' := ?_) #[true, true, true, true, true, true, true, true, true, true, true, true, true, true, true, false] rfl rfl (any_of HT_.1 (by kernel_rfl)) (fun _ _ _ h => h) (Or.inr ⟨by rfl, rfl⟩) ?_ ?_
                    rotate_left
                    ·simp only [Act.put, List.setIfInBounds_toArray, List.set_cons_zero, List.set_cons_succ, i64_w, i32_w]
                     rfl
                    refine pure_ (i := 15) (N := some 127) (v := ?_) (a' := ?_) #[true, true, true, true, true, true, true, true, true, true, true, true, true, true, true, true] rfl rfl (any_of HT_.1 (by kernel_rfl)) (fun _ _ _ h => h) (Or.inl ⟨by rfl, ?_⟩) ?_ ?_
                    rotate_left
                    ·intro w'
                     go_simp
                     with_reducible rfl
                    rotate_left
                    ·simp only [Act.put, List.setIfInBounds_toArray, List.set_cons_zero, List.set_cons_succ, i64_w, i32_w]
                     rfl
                    refine done_ (done_of HT_.1 (by kernel_rfl)) ?_
                    have hcz148_0 : w147.cell? ⟨gb152, 0, none⟩ = some (.int .i64 x153000_2) := (bc_ BK152.1 0).trans rfl
                    have hcz148_1 : w147.cell? ⟨gb152, 1, none⟩ = some (.slice none 0 0) := (bc_ BK152.1 1).trans rfl
                    have hcz148_2 : w147.cell? ⟨gb152, 2, none⟩ = some (.string x153002_2) := (bc_ BK152.1 2).trans rfl
                    have hfz148_0 := bF_ BK152.1 0
                    have hfz148_1 := bF_ BK152.1 1
                    have hfz148_2 := bF_ BK152.1 2
                    try go_wp2
                    refine bodyPost_ret (results_ctt rfl _ _ gb152 25 #[.int .i64 0, .slice none 0 0, .string (⟨#[]⟩ : ByteArray)] (0, 0) _ rfl (by (with_reducible repeat (first | refine bN_ ?_ _ | refine bD_ ?_ | refine bA_ ?_ _)); refine blk_put (cs := #[.int .i64 0, .slice none 0 0, .string x153002_2]) ?_ 2 _ rfl; (with_reducible repeat (first | refine bN_ ?_ _ | refine bD_ ?_ | refine bA_ ?_ _)); refine blk_put (cs := #[.int .i64 0, .slice none 0 0, .string x153002_2]) ?_ 1 _ rfl; (with_reducible repeat (first | refine bN_ ?_ _ | refine bD_ ?_ | refine bA_ ?_ _)); refine blk_put (cs := #[.int .i64 x153000_2, .slice none 0 0, .string x153002_2]) ?_ 0 _ rfl; (with_reducible repeat (first | refine bN_ ?_ _ | refine bD_ ?_ | refine bA_ ?_ _)); exact BK152.1) Tryz.underlying25 rfl (by kernel_rfl)) rfl ?_
                    exact ⟨_, by first | rfl | (simp [errW_none, errW_some] <;> rfl) | (simp only [← hji6, ← hji96]; first | rfl | (simp [errW_none, errW_some] <;> rfl)) | (simp [*, errW_none, errW_some] <;> rfl), by first | exact Kd.R_nil _ _ _ _ _ | exact Kd.N_nil _ _ _ _ _ | exact Kd.V_nil _ _ _ _ _ | exact Kd.Q_nil _ _ _ _ _ | exact Kd.S_nil _ _ _ _ _, by repeat (first | (with_reducible first | exact HB.1 | apply aB_ | apply pN_ | apply dB_ | refine sB_ ?_ GE152.1 | refine sB_ ?_ GE158.1) | exact HB.1)⟩
                  ·rw [if_neg c97] at H
                   exact absurd H (by simp)
                 ·rw [if_neg c94] at H
                  exact absurd H (by simp)
                ·rw [if_neg c93] at H
                 exact absurd H (by simp)
               ·rw [if_neg c92] at H
                exact absurd H (by simp)
        ·rw [if_neg c31] at H
         exact absurd H (by simp)
       ·rw [if_neg c30] at H
        exact absurd H (by simp)
   ·rw [if_neg c8] at H
    exact absurd H (by simp)
  ·rw [if_neg c7] at H
   exact absurd H (by simp)

end Go.Proofs.YtfncjddolbghlaaGreatDoor.GFnExactGetResp
