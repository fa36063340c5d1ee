-- by gprint.py (this session's program over the kit's print.py) (a twelfth state) out of the translation. Not trusted: Lean checks it.
import Derived.Test.YtfncjddolbghlaaGreatDoorGFnExactGetRespx0
import Derived.Test.YtfncjddolbghlaaGreatDoorGFnExactGetRespx5
import Derived.Test.YtfncjddolbghlaaGreatDoorGFnExactGetRespx6
import Derived.Test.YtfncjddolbghlaaGreatDoorGFnExactGetRespx8
import Derived.Test.YtfncjddolbghlaaGreatDoorGFnExactGetRespx9
import Derived.Test.YtfncjddolbghlaaGreatDoorGFnExactGetRespx10
namespace Go.Proofs.YtfncjddolbghlaaGreatDoor.GFnExactGetResp
open Go.RowKit Go.Proofs.YtfncjddolbghlaaGreatDoorW.PrintWords Go.Proofs.YtfncjddolbghlaaGreatDoorW.PrintLast Go.Proofs.YtfncjddolbghlaaGreatDoorW.PrintMore
attribute [local go_sem] max2_int min2_int max_two min_two max_three min_three max_four min_four   -- for this text's walks alone
set_option linter.unusedVariables false
set_option linter.unusedSimpArgs false
set_option maxRecDepth 100000
set_option maxHeartbeats 8000000

mutual
def laws_FnExactGetResp.j0 : Nat → List Int → Int → Bool → List Int → Int → Bool → Bool → Int → List (S88) → ByteArray → Int → List (S88) → ByteArray → Option (Bool)
 | 0, _, _, _, _, _, _, _, _, _, _, _, _, _ => none
 | k + 1, x0, x4, x5, x6, x8, x9, x47, x282000, x282001, x282002, x293000, x293001, x293002 => if x47 = true then (some false) else ((laws_toByteS.f k x0).bind fun t294 => ((laws_eqByteS.f k x6 t294).bind fun t297 => (if t297 = true then ((laws_markByteS.f k x6 1).bind fun bt298 => (if bt298.1 < 0 then (laws_FnExactGetResp.j1 k x0 x4 x5 true x282000 x282001 x282002 x293000 x293001 x293002) else ((laws_eqResp.f k x293000 x293001 x293002 x282000 x282001 x282002).bind fun t300 => (if t300 = true then (if x8 = x4 then (laws_FnExactGetResp.j1 k x0 x4 x5 (x9 != x5) x282000 x282001 x282002 x293000 x293001 x293002) else (laws_FnExactGetResp.j1 k x0 x4 x5 true x282000 x282001 x282002 x293000 x293001 x293002)) else (laws_FnExactGetResp.j1 k x0 x4 x5 true x282000 x282001 x282002 x293000 x293001 x293002))))) else (some false))))
def laws_FnExactGetResp.j1 : Nat → List Int → Int → Bool → Bool → Int → List (S88) → ByteArray → Int → List (S88) → ByteArray → Option (Bool)
 | 0, _, _, _, _, _, _, _, _, _, _ => none
 | k + 1, x0, x4, x5, x73, x282000, x282001, x282002, x293000, x293001, x293002 => if x73 = true then (some false) else ((laws_markResp.f k x293000 x293001 x293002 1).bind fun bt301 => ((laws_heldResp.f k x293000 bt301.2 x293002 1).bind fun t303 => (if t303 < 0 then (some false) else (if t303 = bt301.1 then ((laws_toByteS.f k x0).bind fun t304 => ((impl_GetResp.f k t304).bind fun bt307 => ((laws_eqResp.f k bt307.1 bt307.2.1 bt307.2.2.1 x282000 x282001 x282002).bind fun t315 => (if t315 = true then (if bt307.2.2.2.1 = x4 then (laws_FnExactGetResp.j2 k bt301.1 (bt307.2.2.2.2 != x5) x293000 bt301.2 x293002) else (laws_FnExactGetResp.j2 k bt301.1 true x293000 bt301.2 x293002)) else (laws_FnExactGetResp.j2 k bt301.1 true x293000 bt301.2 x293002))))) else (some false)))))
def laws_FnExactGetResp.j2 : Nat → Int → Bool → Int → List (S88) → ByteArray → Option (Bool)
 | 0, _, _, _, _, _ => none
 | k + 1, x11, x105, x293000, x293001, x293002 => if x105 = true then (some false) else ((laws_heldResp.f k x293000 x293001 x293002 1).bind fun t316 => (if t316 < 0 then (some false) else (if t316 = x11 then (some true) else (some false))))
end
def laws_FnExactGetResp.f (k : Nat) (l0 : List Int) : Option (Bool) := if (l0.length : Int) > 1048576 then (some true) else ((laws_toByteS.f k l0).bind fun t271 => ((spec_GetResp.f k t271).bind fun bt274 => ((laws_toByteS.f k l0).bind fun t282 => ((impl_GetResp.f k t282).bind fun bt285 => ((laws_eqResp.f k bt285.1 bt285.2.1 bt285.2.2.1 bt274.1 bt274.2.1 bt274.2.2.1).bind fun t293 => (if t293 = true then (if bt285.2.2.2.1 = bt274.2.2.2.1 then (laws_FnExactGetResp.j0 k l0 bt274.2.2.2.1 bt274.2.2.2.2 t282 bt285.2.2.2.1 bt285.2.2.2.2 (bt285.2.2.2.2 != bt274.2.2.2.2) bt274.1 bt274.2.1 bt274.2.2.1 bt285.1 bt285.2.1 bt285.2.2.1) else (laws_FnExactGetResp.j0 k l0 bt274.2.2.2.1 bt274.2.2.2.2 t282 bt285.2.2.2.1 bt285.2.2.2.2 true bt274.1 bt274.2.1 bt274.2.2.1 bt285.1 bt285.2.1 bt285.2.2.1)) else (laws_FnExactGetResp.j0 k l0 bt274.2.2.2.1 bt274.2.2.2.2 t282 bt285.2.2.2.1 bt285.2.2.2.2 true bt274.1 bt274.2.1 bt274.2.2.1 bt285.1 bt285.2.1 bt285.2.2.1)))))))

theorem laws_FnExactGetResp.j0_true : ∀ k y0 y1 y2 y3 y4 y5 y7 y8 y9 y10 y11 y12, ¬ (laws_FnExactGetResp.j0 k y0 y1 y2 y3 y4 y5 true y7 y8 y9 y10 y11 y12 = some true) := by
 intro k y0 y1 y2 y3 y4 y5 y7 y8 y9 y10 y11 y12
 cases k <;> simp [laws_FnExactGetResp.j0]
theorem laws_FnExactGetResp.j1_true : ∀ k y0 y1 y2 y4 y5 y6 y7 y8 y9, ¬ (laws_FnExactGetResp.j1 k y0 y1 y2 true y4 y5 y6 y7 y8 y9 = some true) := by
 intro k y0 y1 y2 y4 y5 y6 y7 y8 y9
 cases k <;> simp [laws_FnExactGetResp.j1]
theorem laws_FnExactGetResp.j2_true : ∀ k y0 y2 y3 y4, ¬ (laws_FnExactGetResp.j2 k y0 true y2 y3 y4 = some true) := by
 intro k y0 y2 y3 y4
 cases k <;> simp [laws_FnExactGetResp.j2]
theorem laws_FnExactGetResp.calls (k : Nat) (A0 : Option Addr) (c0 : Nat) (l0 : List Int) (w : World) (hr0 : Kd.C (Kd.int .u8) w A0 l0.length l0) (hc0 : l0.length ≤ c0) (h : laws_FnExactGetResp.f k l0 = some true) (hG : GOK w) :
  Calls Tryz.prog 3 #[.slice A0 l0.length c0] w fun e w' => e = .returned (.bool true) ∧ Below w.heap.size w w' := by
 have hu25 := Tryz.underlying25
 have HR0 := Aside0.mk hr0
 have HC0 := Aside0.mk hc0
 clear hr0 hc0
 have HB := Aside0.mk (Below.refl w.heap.size w)
 have H : (if (l0.length : Int) > 1048576 then (some true) else ((laws_toByteS.f k l0).bind fun t271 => ((spec_GetResp.f k t271).bind fun bt274 => ((laws_toByteS.f k l0).bind fun t282 => ((impl_GetResp.f k t282).bind fun bt285 => ((laws_eqResp.f k bt285.1 bt285.2.1 bt285.2.2.1 bt274.1 bt274.2.1 bt274.2.2.1).bind fun t293 => (if t293 = true then (if bt285.2.2.2.1 = bt274.2.2.2.1 then (laws_FnExactGetResp.j0 k l0 bt274.2.2.2.1 bt274.2.2.2.2 t282 bt285.2.2.2.1 bt285.2.2.2.2 (bt285.2.2.2.2 != bt274.2.2.2.2) bt274.1 bt274.2.1 bt274.2.2.1 bt285.1 bt285.2.1 bt285.2.2.1) else (laws_FnExactGetResp.j0 k l0 bt274.2.2.2.1 bt274.2.2.2.2 t282 bt285.2.2.2.1 bt285.2.2.2.2 true bt274.1 bt274.2.1 bt274.2.2.1 bt285.1 bt285.2.1 bt285.2.2.1)) else (laws_FnExactGetResp.j0 k l0 bt274.2.2.2.1 bt274.2.2.2.2 t282 bt285.2.2.2.1 bt285.2.2.2.2 true bt274.1 bt274.2.1 bt274.2.2.1 bt285.1 bt285.2.1 bt285.2.2.1)))))))) = some true := h
 clear h
 by_cases c2 : (l0.length : Int) > 1048576
 ·rw [if_pos c2] at H
  have c2b0 : decide (1048576 < (l0.length : Int)) = true := decide_eq_true c2
  have c2b1 : decide (1048576 < l0.length) = true := decide_eq_true (by omega)
  clear c2
  have hr_ := Option.some.inj H
  go_enter Tryz.func3, Tryz.ntmps3
  go_wp2
  go_ret
  exact ⟨by first | rfl | exact absurd hr_ (by decide) | (rw [hr_]; done) | (simp only [hr_]; done) | (simp [errW_none, errW_some] <;> rfl) | (simp [*, errW_none, errW_some] <;> rfl), by repeat (first | (with_reducible first | exact HB.1 | apply aB_ | apply pN_ | apply dB_) | exact HB.1)⟩
 ·rw [if_neg c2] at H
  have c2b0 : decide (1048576 < (l0.length : Int)) = false := decide_eq_false c2
  have c2b1 : decide (1048576 < l0.length) = false := decide_eq_false (by omega)
  clear c2
  replace H := Option.bind_eq_some_iff.mp H
  obtain ⟨t271, A30, H⟩ := H
  replace H : ((spec_GetResp.f k t271).bind fun bt274 => ((laws_toByteS.f k l0).bind fun t282 => ((impl_GetResp.f k t282).bind fun bt285 => ((laws_eqResp.f k bt285.1 bt285.2.1 bt285.2.2.1 bt274.1 bt274.2.1 bt274.2.2.1).bind fun t293 => (if t293 = true then (if bt285.2.2.2.1 = bt274.2.2.2.1 then (laws_FnExactGetResp.j0 k l0 bt274.2.2.2.1 bt274.2.2.2.2 t282 bt285.2.2.2.1 bt285.2.2.2.2 (bt285.2.2.2.2 != bt274.2.2.2.2) bt274.1 bt274.2.1 bt274.2.2.1 bt285.1 bt285.2.1 bt285.2.2.1) else (laws_FnExactGetResp.j0 k l0 bt274.2.2.2.1 bt274.2.2.2.2 t282 bt285.2.2.2.1 bt285.2.2.2.2 true bt274.1 bt274.2.1 bt274.2.2.1 bt285.1 bt285.2.1 bt285.2.2.1)) else (laws_FnExactGetResp.j0 k l0 bt274.2.2.2.1 bt274.2.2.2.2 t282 bt285.2.2.2.1 bt285.2.2.2.2 true bt274.1 bt274.2.1 bt274.2.2.1 bt285.1 bt285.2.1 bt285.2.2.1)))))) = some true := H
  have A3 := Aside0.mk A30
  clear A30
  replace H := Option.bind_eq_some_iff.mp H
  obtain ⟨⟨t274, t275, t278, t279, t280⟩, A40, H⟩ := H
  replace H : ((laws_toByteS.f k l0).bind fun t282 => ((impl_GetResp.f k t282).bind fun bt285 => ((laws_eqResp.f k bt285.1 bt285.2.1 bt285.2.2.1 t274 t275 t278).bind fun t293 => (if t293 = true then (if bt285.2.2.2.1 = t279 then (laws_FnExactGetResp.j0 k l0 t279 t280 t282 bt285.2.2.2.1 bt285.2.2.2.2 (bt285.2.2.2.2 != t280) t274 t275 t278 bt285.1 bt285.2.1 bt285.2.2.1) else (laws_FnExactGetResp.j0 k l0 t279 t280 t282 bt285.2.2.2.1 bt285.2.2.2.2 true t274 t275 t278 bt285.1 bt285.2.1 bt285.2.2.1)) else (laws_FnExactGetResp.j0 k l0 t279 t280 t282 bt285.2.2.2.1 bt285.2.2.2.2 true t274 t275 t278 bt285.1 bt285.2.1 bt285.2.2.1))))) = some true := H
  have A4 := Aside0.mk A40
  clear A40
  replace H := Option.bind_eq_some_iff.mp H
  obtain ⟨t282, A50, H⟩ := H
  have e_ : t271 = t282 := Option.some.inj (A3.1.symm.trans A50)
  subst e_
  replace H : ((impl_GetResp.f k t271).bind fun bt285 => ((laws_eqResp.f k bt285.1 bt285.2.1 bt285.2.2.1 t274 t275 t278).bind fun t293 => (if t293 = true then (if bt285.2.2.2.1 = t279 then (laws_FnExactGetResp.j0 k l0 t279 t280 t271 bt285.2.2.2.1 bt285.2.2.2.2 (bt285.2.2.2.2 != t280) t274 t275 t278 bt285.1 bt285.2.1 bt285.2.2.1) else (laws_FnExactGetResp.j0 k l0 t279 t280 t271 bt285.2.2.2.1 bt285.2.2.2.2 true t274 t275 t278 bt285.1 bt285.2.1 bt285.2.2.1)) else (laws_FnExactGetResp.j0 k l0 t279 t280 t271 bt285.2.2.2.1 bt285.2.2.2.2 true t274 t275 t278 bt285.1 bt285.2.1 bt285.2.2.1)))) = some true := H
  have A5 := Aside0.mk A50
  clear A50
  replace H := Option.bind_eq_some_iff.mp H
  obtain ⟨⟨t285, t286, t289, t290, t291⟩, A60, H⟩ := H
  replace H : ((laws_eqResp.f k t285 t286 t289 t274 t275 t278).bind fun t293 => (if t293 = true then (if t290 = t279 then (laws_FnExactGetResp.j0 k l0 t279 t280 t271 t290 t291 (t291 != t280) t274 t275 t278 t285 t286 t289) else (laws_FnExactGetResp.j0 k l0 t279 t280 t271 t290 t291 true t274 t275 t278 t285 t286 t289)) else (laws_FnExactGetResp.j0 k l0 t279 t280 t271 t290 t291 true t274 t275 t278 t285 t286 t289))) = some true := H
  have A6 := Aside0.mk A60
  clear A60
  have HC7 := Aside0.mk H
  clear H
  go_enter Tryz.func3, Tryz.ntmps3
  go_upto_region 6 with (first | ((with_reducible refine gate_callee (f := 13) rfl ?_); refine goesL_ (some 21) rfl rfl Tryz.func13 (by kernel_rfl) rfl #[.slice A0 l0.length c0] rfl (by (try simp only [List.map_toArray, List.map_cons, List.map_nil]); first | done | rfl | (simp only [List.length_drop, List.length_take]; rfl)) ?_; (with_reducible refine (laws_toByteS.calls k _ _ l0 t271 _ ?side1 ?side2 A3.1).mono ?_); (case side1 => repeat (first | exact HR0.1 | (with_reducible refine Kd.C_alloc ?_ _) | (with_reducible refine Kd.C_drewN ?_ _) | (with_reducible refine Kd.C_drew ?_))); (case side2 => exact HC0.1); rintro e w8 ⟨v272, rfl, ho0, hb⟩; refine ⟨_, rfl, ?_⟩; have n0_ := Aside0.mk (Kd.R_lower ho0 (below_size (by repeat (first | (with_reducible first | exact HB.1 | apply aB_ | apply pN_ | apply dB_) | exact HB.1)))); have n1_ := Aside0.mk (below_step (by repeat (first | (with_reducible first | exact HB.1 | apply aB_ | apply pN_ | apply dB_) | exact HB.1)) hb); clear HB; have HO273 := n0_; have HB := n1_; clear n0_ n1_; (try clear hb); (try clear hb2); (try clear hk); (try clear hi); (try clear ho0); obtain ⟨Ao9, co9, eo9⟩ := Kd.R_slice HO273.1; subst eo9) | ((with_reducible refine gate_callee (f := 12) rfl ?_); refine goesL_ (some 22) rfl rfl Tryz.func12 (by kernel_rfl) rfl #[.slice Ao9 t271.length co9] rfl (by (try simp only [List.map_toArray, List.map_cons, List.map_nil]); first | done | rfl | (simp only [List.length_drop, List.length_take]; rfl)) ?_; (with_reducible refine (spec_GetResp.calls k _ _ t271 t274 t275 t278 t279 t280 _ ?side1 ?side2 A4.1).mono ?_); (case side1 => repeat (first | exact (Kd.R_reads' HO273.1).2.2 | (with_reducible refine Kd.C_alloc ?_ _) | (with_reducible refine Kd.C_drewN ?_ _) | (with_reducible refine Kd.C_drew ?_))); (case side2 => exact (Kd.R_reads' HO273.1).2.1); rintro e w10 ⟨v276, rfl, ho0, hb⟩; refine ⟨_, rfl, ?_⟩; have n0_ := Aside0.mk (Kd.R_below (by (with_reducible repeat (first | apply rA_ | apply rN_ | apply rD_)); exact HO273.1) hb); have n1_ := Aside0.mk (Kd.R_lower ho0 (below_size (by repeat (first | (with_reducible first | exact HB.1 | apply aB_ | apply pN_ | apply dB_) | exact HB.1)))); have n2_ := Aside0.mk (below_step (by repeat (first | (with_reducible first | exact HB.1 | apply aB_ | apply pN_ | apply dB_) | exact HB.1)) hb); clear HO273 HB; have HO273 := n0_; have HO277 := n1_; have HB := n2_; clear n0_ n1_ n2_; (try clear hb); (try clear hb2); (try clear hk); (try clear hi); (try clear ho0)) | ((with_reducible refine gate_dst (N := 3) rfl ?_); refine box_event ?hg (N := 3) ?hd (cs := #[.int .i64 0, .slice none 0 0, .string (⟨#[]⟩ : ByteArray)]) (t := 25) ?hr ?_; (case hd => rfl); (case hg => rfl); (case hr => first | (go_simp; done) | (go_simp; rfl)); intro gb281 hg w11 hbox hb; have n0_ := Aside0.mk (Kd.R_below (by (with_reducible repeat (first | apply rA_ | apply rN_ | apply rD_)); exact HO273.1) hb); have n1_ := Aside0.mk (Kd.R_below (by (with_reducible repeat (first | apply rA_ | apply rN_ | apply rD_)); exact HO277.1) hb); have n2_ := Aside0.mk (below_step (by repeat (first | (with_reducible first | exact HB.1 | apply aB_ | apply pN_ | apply dB_) | exact HB.1)) hb); have n3_ := Aside0.mk (hbox); have n4_ := Aside0.mk ((by rw [hg]; exact (below_size (by repeat (first | (with_reducible first | exact HB.1 | apply aB_ | apply pN_ | apply dB_) | exact HB.1))) : w.heap.size ≤ gb281)); have n5_ := Aside0.mk ((by rw [hg]; exact (below_size (by repeat (first | (with_reducible first | exact HB.1 | apply aB_ | apply pN_ | apply dB_) | exact HB.1))) : w.heap.size ≤ gb281)); clear HO273 HO277 HB; have HO273 := n0_; have HO277 := n1_; have HB := n2_; have BK281 := n3_; have GW281 := n4_; have GE281 := n5_; clear n0_ n1_ n2_ n3_ n4_ n5_; clear hb hbox hg; have hcz12_0 : w11.cell? ⟨gb281, 0, none⟩ = some (.int .i64 0) := (bc_ BK281.1 0).trans rfl; have hcz12_1 : w11.cell? ⟨gb281, 1, none⟩ = some (.slice none 0 0) := (bc_ BK281.1 1).trans rfl; have hcz12_2 : w11.cell? ⟨gb281, 2, none⟩ = some (.string (⟨#[]⟩ : ByteArray)) := (bc_ BK281.1 2).trans rfl; have hfz12_0 := bF_ BK281.1 0; have hfz12_1 := bF_ BK281.1 1; have hfz12_2 := bF_ BK281.1 2; obtain ⟨Ao13, co13, eo13⟩ := Kd.R_slice HO277.1; subst eo13) | ((with_reducible refine gate_callee (f := 13) rfl ?_); refine goesL_ (some 27) rfl rfl Tryz.func13 (by kernel_rfl) rfl #[.slice A0 l0.length c0] rfl (by (try simp only [List.map_toArray, List.map_cons, List.map_nil]); first | done | rfl | (simp only [List.length_drop, List.length_take]; rfl)) ?_; (with_reducible refine (laws_toByteS.calls k _ _ l0 t271 _ ?side1 ?side2 A5.1).mono ?_); (case side1 => exact Kd.C_below HR0.1 (by repeat (first | (with_reducible first | exact HB.1 | apply aB_ | apply pN_ | apply dB_ | refine sB_ ?_ GE281.1) | exact HB.1))); (case side2 => exact HC0.1); rintro e w14 ⟨v283, rfl, ho0, hb⟩; refine ⟨_, rfl, ?_⟩; have n0_ := Aside0.mk (Kd.R_elder' (by (with_reducible repeat (first | apply rA_ | apply rN_ | apply rD_)); exact (Kd.R_mono (rF_ (p := ⟨gb281, 2, none⟩) (rF_ (p := ⟨gb281, 1, none⟩) (rF_ (p := ⟨gb281, 0, none⟩) (Kd.R_types HO273.1 BK281.1 (by decide)) (fun _ hk => hk.2) (.int .i64 t274)) (fun _ hk => hk.2) (.slice Ao13 t275.length co13)) (fun _ hk => hk.2) (.string t278)) (fun _ h_ => h_.1))) (Kd.R_base ho0) hb); have n1_ := Aside0.mk (Kd.R_below (by (with_reducible repeat (first | apply rA_ | apply rN_ | apply rD_)); exact (Kd.R_mono (rF_ (p := ⟨gb281, 2, none⟩) (rF_ (p := ⟨gb281, 1, none⟩) (rF_ (p := ⟨gb281, 0, none⟩) (Kd.R_types HO277.1 BK281.1 (by decide)) (fun _ hk => hk.2) (.int .i64 t274)) (fun _ hk => hk.2) (.slice Ao13 t275.length co13)) (fun _ hk => hk.2) (.string t278)) (fun _ h_ => h_.1))) hb); have n2_ := Aside0.mk (Kd.R_lower (Kd.R_new' ho0 (Kd.R_lt (by (with_reducible repeat (first | apply rA_ | apply rN_ | apply rD_)); exact (Kd.R_mono (rF_ (p := ⟨gb281, 2, none⟩) (rF_ (p := ⟨gb281, 1, none⟩) (rF_ (p := ⟨gb281, 0, none⟩) (Kd.R_types HO273.1 BK281.1 (by decide)) (fun _ hk => hk.2) (.int .i64 t274)) (fun _ hk => hk.2) (.slice Ao13 t275.length co13)) (fun _ hk => hk.2) (.string t278)) (fun _ h_ => h_.1))))) (below_size (by repeat (first | (with_reducible first | exact HB.1 | apply aB_ | apply pN_ | apply dB_ | refine sB_ ?_ GE281.1) | exact HB.1)))); have n3_ := Aside0.mk (bB_ (g := gb281) (o := .cells #[.int .i64 t274, .slice Ao13 t275.length co13, .string t278] 25 (0, 0)) (by (with_reducible repeat (first | refine bN_ ?_ _ | refine bD_ ?_ | refine bA_ ?_ _)); refine blk_put (cs := #[.int .i64 t274, .slice Ao13 t275.length co13, .string (⟨#[]⟩ : ByteArray)]) ?_ 2 _ rfl; (with_reducible repeat (first | refine bN_ ?_ _ | refine bD_ ?_ | refine bA_ ?_ _)); refine blk_put (cs := #[.int .i64 t274, .slice none 0 0, .string (⟨#[]⟩ : ByteArray)]) ?_ 1 _ rfl; (with_reducible repeat (first | refine bN_ ?_ _ | refine bD_ ?_ | refine bA_ ?_ _)); refine blk_put (cs := #[.int .i64 0, .slice none 0 0, .string (⟨#[]⟩ : ByteArray)]) ?_ 0 _ rfl; (with_reducible repeat (first | refine bN_ ?_ _ | refine bD_ ?_ | refine bA_ ?_ _)); exact BK281.1) hb); have n4_ := Aside0.mk (below_step (by repeat (first | (with_reducible first | exact HB.1 | apply aB_ | apply pN_ | apply dB_ | refine sB_ ?_ GE281.1) | exact HB.1)) hb); clear HO273 HO277; clear BK281 HB; have HO273 := n0_; have HO277 := n1_; have HO284 := n2_; have BK281 := n3_; have HB := n4_; clear n0_ n1_ n2_ n3_ n4_; (try clear hb); (try clear hb2); (try clear hk); (try clear hi); (try clear ho0); obtain ⟨Ao15, co15, eo15⟩ := Kd.R_slice HO284.1; subst eo15) | ((with_reducible refine gate_callee (f := 14) rfl ?_); refine goesL_ (some 30) rfl rfl Tryz.func14 (by kernel_rfl) rfl #[.slice Ao15 t271.length co15] rfl (by (try simp only [List.map_toArray, List.map_cons, List.map_nil]); first | done | rfl | (simp only [List.length_drop, List.length_take]; rfl)) ?_; (with_reducible refine (impl_GetResp.calls k _ _ t271 t285 t286 t289 t290 t291 _ ?side1 ?side2 A6.1 ?side99).mono ?_); (case side1 => repeat (first | exact (Kd.R_reads' HO284.1).2.2 | (with_reducible refine Kd.C_alloc ?_ _) | (with_reducible refine Kd.C_drewN ?_ _) | (with_reducible refine Kd.C_drew ?_))); (case side2 => exact (Kd.R_reads' HO284.1).2.1); (case side99 => first | (with_reducible exact hG) | (refine GOK_below hG ?_; (repeat (first | (with_reducible first | exact HB.1 | apply aB_ | apply pN_ | apply dB_ | refine sB_ ?_ GE281.1 | refine sB_ ?_ GE292.1 | refine sB_ ?_ GE314.1) | exact HB.1)); done) | (refine GOK_drawn hG ?_; (repeat (first | exact Drawn0.refl _ | apply Drawn0.step)); done) | exact hG); rintro e w16 ⟨v287, rfl, ho0, hb⟩; refine ⟨_, rfl, ?_⟩; have n0_ := Aside0.mk (Kd.R_below (by (with_reducible repeat (first | apply rA_ | apply rN_ | apply rD_)); exact HO273.1) hb); have n1_ := Aside0.mk (Kd.R_elder' (by (with_reducible repeat (first | apply rA_ | apply rN_ | apply rD_)); exact HO277.1) (Kd.R_base ho0) hb); have n2_ := Aside0.mk (Kd.R_below (by (with_reducible repeat (first | apply rA_ | apply rN_ | apply rD_)); exact HO284.1) hb); have n3_ := Aside0.mk (Kd.R_lower (Kd.R_new' ho0 (Kd.R_lt (by (with_reducible repeat (first | apply rA_ | apply rN_ | apply rD_)); exact HO277.1))) (below_size (by repeat (first | (with_reducible first | exact HB.1 | apply aB_ | apply pN_ | apply dB_ | refine sB_ ?_ GE281.1) | exact HB.1)))); have n4_ := Aside0.mk (bB_ (g := gb281) (o := .cells #[.int .i64 t274, .slice Ao13 t275.length co13, .string t278] 25 (0, 0)) (by (with_reducible repeat (first | refine bN_ ?_ _ | refine bD_ ?_ | refine bA_ ?_ _)); exact BK281.1) hb); have n5_ := Aside0.mk (below_step (by repeat (first | (with_reducible first | exact HB.1 | apply aB_ | apply pN_ | apply dB_ | refine sB_ ?_ GE281.1) | exact HB.1)) hb); clear HO273 HO277; clear HO284 BK281 HB; have HO273 := n0_; have HO277 := n1_; have HO284 := n2_; have HO288 := n3_; have BK281 := n4_; have HB := n5_; clear n0_ n1_ n2_ n3_ n4_ n5_; (try clear hb); (try clear hb2); (try clear hk); (try clear hi); (try clear ho0)) | ((with_reducible refine gate_dst (N := 7) rfl ?_); refine box_event ?hg (N := 7) ?hd (cs := #[.int .i64 0, .slice none 0 0, .string (⟨#[]⟩ : ByteArray)]) (t := 25) ?hr ?_; (case hd => rfl); (case hg => rfl); (case hr => first | (go_simp; done) | (go_simp; rfl)); intro gb292 hg w17 hbox hb; have n0_ := Aside0.mk (Kd.R_below (by (with_reducible repeat (first | apply rA_ | apply rN_ | apply rD_)); exact HO273.1) hb); have n1_ := Aside0.mk (Kd.R_below (by (with_reducible repeat (first | apply rA_ | apply rN_ | apply rD_)); exact HO277.1) hb); have n2_ := Aside0.mk (Kd.R_below (by (with_reducible repeat (first | apply rA_ | apply rN_ | apply rD_)); exact HO284.1) hb); have n3_ := Aside0.mk (Kd.R_below (by (with_reducible repeat (first | apply rA_ | apply rN_ | apply rD_)); exact HO288.1) hb); have n4_ := Aside0.mk (bB_ (g := gb281) (o := .cells #[.int .i64 t274, .slice Ao13 t275.length co13, .string t278] 25 (0, 0)) (by (with_reducible repeat (first | refine bN_ ?_ _ | refine bD_ ?_ | refine bA_ ?_ _)); exact BK281.1) hb); have n5_ := Aside0.mk (below_step (by repeat (first | (with_reducible first | exact HB.1 | apply aB_ | apply pN_ | apply dB_ | refine sB_ ?_ GE281.1) | exact HB.1)) hb); have n6_ := Aside0.mk (hbox); have n7_ := Aside0.mk ((by rw [hg]; exact (below_size (by repeat (first | (with_reducible first | exact HB.1 | apply aB_ | apply pN_ | apply dB_ | refine sB_ ?_ GE281.1) | exact HB.1))) : w.heap.size ≤ gb292)); have n8_ := Aside0.mk ((by rw [hg]; exact (below_size (by repeat (first | (with_reducible first | exact HB.1 | apply aB_ | apply pN_ | apply dB_ | refine sB_ ?_ GE281.1) | exact HB.1))) : w.heap.size ≤ gb292)); have n9_ := Aside0.mk ((by rw [hg]; exact Nat.ne_of_lt (blk_lt (g := gb281) (o := .cells #[.int .i64 t274, .slice Ao13 t275.length co13, .string t278] 25 (0, 0)) (by (with_reducible repeat (first | refine bN_ ?_ _ | refine bD_ ?_ | refine bA_ ?_ _)); exact BK281.1)) : gb281 ≠ gb292)); have n10_ := Aside0.mk ((by rw [hg]; exact Nat.ne_of_gt (blk_lt (g := gb281) (o := .cells #[.int .i64 t274, .slice Ao13 t275.length co13, .string t278] 25 (0, 0)) (by (with_reducible repeat (first | refine bN_ ?_ _ | refine bD_ ?_ | refine bA_ ?_ _)); exact BK281.1)) : gb292 ≠ gb281)); clear HO273 HO277; clear HO284 HO288; clear BK281 HB; have HO273 := n0_; have HO277 := n1_; have HO284 := n2_; have HO288 := n3_; have BK281 := n4_; have HB := n5_; have BK292 := n6_; have GW292 := n7_; have GE292 := n8_; have NB281_292 := n9_; have NB292_281 := n10_; clear n0_ n1_ n2_ n3_ n4_ n5_ n6_ n7_ n8_ n9_ n10_; clear hb hbox hg; have hnb18 := NB292_281.1; have hnc18 := NB281_292.1; have hcz19_0 : w17.cell? ⟨gb292, 0, none⟩ = some (.int .i64 0) := (bc_ BK292.1 0).trans rfl; have hcz19_1 : w17.cell? ⟨gb292, 1, none⟩ = some (.slice none 0 0) := (bc_ BK292.1 1).trans rfl; have hcz19_2 : w17.cell? ⟨gb292, 2, none⟩ = some (.string (⟨#[]⟩ : ByteArray)) := (bc_ BK292.1 2).trans rfl; have hfz19_0 := bF_ BK292.1 0; have hfz19_1 := bF_ BK292.1 1; have hfz19_2 := bF_ BK292.1 2; obtain ⟨Ao20, co20, eo20⟩ := Kd.R_slice HO288.1; subst eo20))
  (try simp only [Act.put, List.setIfInBounds_toArray, List.set_cons_zero, List.set_cons_succ])
  go_cut [47] (fun v47 wc => ∃ (kq : Nat) (x47_6 : Bool), v47 = .bool x47_6 ∧ Aside0 (laws_FnExactGetResp.j0 kq l0 t279 t280 t271 t290 t291 x47_6 t274 t275 t278 t285 t286 t289 = some true) ∧ Aside0 (kq ≤ k) ∧ Aside0 (Kd.R (Kd.int .u8) 5 wc w.heap.size (fun _ => True) (.slice Ao15 t271.length co15) t271) ∧ Aside0 (Kd.R k88 88 wc w.heap.size (fun k_ => some k_ ≠ ((.slice Ao20 t286.length co20) : Value).ownBlock) (.slice Ao13 t275.length co13) t275) ∧ Aside0 (Kd.R k88 88 wc w.heap.size (fun k_ => some k_ ≠ ((.slice Ao13 t275.length co13) : Value).ownBlock) (.slice Ao20 t286.length co20) t286) ∧ Aside0 (wc.heap[gb281]? = some (.cells #[.int .i64 t274, (.slice Ao13 t275.length co13), .string t278] 25 (0, 0))) ∧ Aside0 (wc.heap[gb292]? = some (.cells #[.int .i64 t285, (.slice Ao20 t286.length co20), .string t289] 25 (0, 0))) ∧ Aside0 (Below w.heap.size w wc))
  case first =>
   have H := HC7.1
   clear HC7
   replace H := Option.bind_eq_some_iff.mp H
   obtain ⟨t293, A210, H⟩ := H
   replace H : (if t293 = true then (if t290 = t279 then (laws_FnExactGetResp.j0 k l0 t279 t280 t271 t290 t291 (t291 != t280) t274 t275 t278 t285 t286 t289) else (laws_FnExactGetResp.j0 k l0 t279 t280 t271 t290 t291 true t274 t275 t278 t285 t286 t289)) else (laws_FnExactGetResp.j0 k l0 t279 t280 t271 t290 t291 true t274 t275 t278 t285 t286 t289)) = some true := H
   have A21 := Aside0.mk A210
   clear A210
   by_cases c22 : t293 = true
   ·subst c22
    have H1 : (if t290 = t279 then (laws_FnExactGetResp.j0 k l0 t279 t280 t271 t290 t291 (t291 != t280) t274 t275 t278 t285 t286 t289) else (laws_FnExactGetResp.j0 k l0 t279 t280 t271 t290 t291 true t274 t275 t278 t285 t286 t289)) = some true := by rw [if_pos rfl] at H; exact H
    clear H
    have H := H1
    clear H1
    by_cases c23 : t290 = t279
    ·rw [if_pos c23] at H
     have c23b0 : (t290 == t279) = true := beq_iff_eq.mpr c23
     have c23b1 : (t290 != t279) = false := bne_eq_false_iff_eq.mpr c23
     clear c23
     (first | rw [c23b0] | (simp only [i64_w, i32_w]; rw [c23b0]) | skip)
     have H' := Aside0.mk H
     clear H
     have hnb24 := NB292_281.1
     have hnc24 := NB281_292.1
     have hcz25_0 : w17.cell? ⟨gb292, 0, none⟩ = some (.int .i64 0) := (bc_ BK292.1 0).trans rfl
     have hcz25_1 : w17.cell? ⟨gb292, 1, none⟩ = some (.slice none 0 0) := (bc_ BK292.1 1).trans rfl
     have hcz25_2 : w17.cell? ⟨gb292, 2, none⟩ = some (.string (⟨#[]⟩ : ByteArray)) := (bc_ BK292.1 2).trans rfl
     have hfz25_0 := bF_ BK292.1 0
     have hfz25_1 := bF_ BK292.1 1
     have hfz25_2 := bF_ BK292.1 2
     have hcz26_0 : w17.cell? ⟨gb281, 0, none⟩ = some (.int .i64 t274) := (bc_ BK281.1 0).trans rfl
     have hcz26_1 : w17.cell? ⟨gb281, 1, none⟩ = some (.slice Ao13 t275.length co13) := (bc_ BK281.1 1).trans rfl
     have hcz26_2 : w17.cell? ⟨gb281, 2, none⟩ = some (.string t278) := (bc_ BK281.1 2).trans rfl
     have hfz26_0 := bF_ BK281.1 0
     have hfz26_1 := bF_ BK281.1 1
     have hfz26_2 := bF_ BK281.1 2
     go_wp2_with (first | ((with_reducible refine gate_callee (f := 15) rfl ?_); refine goesL_ (some 36) rfl rfl Tryz.func15 (by kernel_rfl) rfl #[.agg #[.int .i64 t285, .slice Ao20 t286.length co20, .string t289], .agg #[.int .i64 t274, .slice Ao13 t275.length co13, .string t278]] rfl (by (try simp only [List.map_toArray, List.map_cons, List.map_nil]); first | done | rfl | (simp only [List.length_drop, List.length_take]; rfl)) ?_; (with_reducible refine (laws_eqResp.calls k t285 _ _ t286 t289 t274 _ _ t275 t278 true _ ?side1 ?side2 ?side3 ?side4 A21.1).mono ?_); (case side1 => refine (Kd.R_reads' (e := 88) (base := w.heap.size) (ok := fun k_ => (True ∧ some k_ ≠ (.slice Ao13 t275.length co13 : Value).ownBlock)) (n := t286.length) (c := co20) ?_).2.2; exact (by (with_reducible repeat (first | apply rA_ | apply rN_ | apply rD_)); exact (Kd.R_mono (rF_ (p := ⟨gb292, 2, none⟩) (rF_ (p := ⟨gb292, 1, none⟩) (rF_ (p := ⟨gb292, 0, none⟩) (Kd.R_types HO288.1 BK292.1 (by decide)) (fun _ hk => hk.2) (.int .i64 t285)) (fun _ hk => hk.2) (.slice Ao20 t286.length co20)) (fun _ hk => hk.2) (.string t289)) (fun _ h_ => h_.1)))); (case side2 => exact (Kd.R_reads' HO288.1).2.1); (case side3 => refine (Kd.R_reads' (e := 88) (base := w.heap.size) (ok := fun k_ => (True ∧ some k_ ≠ (.slice Ao20 t286.length co20 : Value).ownBlock)) (n := t275.length) (c := co13) ?_).2.2; exact (by (with_reducible repeat (first | apply rA_ | apply rN_ | apply rD_)); exact (Kd.R_mono (rF_ (p := ⟨gb292, 2, none⟩) (rF_ (p := ⟨gb292, 1, none⟩) (rF_ (p := ⟨gb292, 0, none⟩) (Kd.R_types HO277.1 BK292.1 (by decide)) (fun _ hk => hk.2) (.int .i64 t285)) (fun _ hk => hk.2) (.slice Ao20 t286.length co20)) (fun _ hk => hk.2) (.string t289)) (fun _ h_ => h_.1)))); (case side4 => exact (Kd.R_reads' HO277.1).2.1); rintro e w27 ⟨rfl, hb⟩; refine ⟨_, rfl, ?_⟩; have n0_ := Aside0.mk (Kd.R_below (by (with_reducible repeat (first | apply rA_ | apply rN_ | apply rD_)); exact (Kd.R_mono (rF_ (p := ⟨gb292, 2, none⟩) (rF_ (p := ⟨gb292, 1, none⟩) (rF_ (p := ⟨gb292, 0, none⟩) (Kd.R_types HO273.1 BK292.1 (by decide)) (fun _ hk => hk.2) (.int .i64 t285)) (fun _ hk => hk.2) (.slice Ao20 t286.length co20)) (fun _ hk => hk.2) (.string t289)) (fun _ h_ => h_.1))) hb); have n1_ := Aside0.mk (Kd.R_below (by (with_reducible repeat (first | apply rA_ | apply rN_ | apply rD_)); exact (Kd.R_mono (rF_ (p := ⟨gb292, 2, none⟩) (rF_ (p := ⟨gb292, 1, none⟩) (rF_ (p := ⟨gb292, 0, none⟩) (Kd.R_types HO277.1 BK292.1 (by decide)) (fun _ hk => hk.2) (.int .i64 t285)) (fun _ hk => hk.2) (.slice Ao20 t286.length co20)) (fun _ hk => hk.2) (.string t289)) (fun _ h_ => h_.1))) hb); have n2_ := Aside0.mk (Kd.R_below (by (with_reducible repeat (first | apply rA_ | apply rN_ | apply rD_)); exact (Kd.R_mono (rF_ (p := ⟨gb292, 2, none⟩) (rF_ (p := ⟨gb292, 1, none⟩) (rF_ (p := ⟨gb292, 0, none⟩) (Kd.R_types HO284.1 BK292.1 (by decide)) (fun _ hk => hk.2) (.int .i64 t285)) (fun _ hk => hk.2) (.slice Ao20 t286.length co20)) (fun _ hk => hk.2) (.string t289)) (fun _ h_ => h_.1))) hb); have n3_ := Aside0.mk (Kd.R_below (by (with_reducible repeat (first | apply rA_ | apply rN_ | apply rD_)); exact (Kd.R_mono (rF_ (p := ⟨gb292, 2, none⟩) (rF_ (p := ⟨gb292, 1, none⟩) (rF_ (p := ⟨gb292, 0, none⟩) (Kd.R_types HO288.1 BK292.1 (by decide)) (fun _ hk => hk.2) (.int .i64 t285)) (fun _ hk => hk.2) (.slice Ao20 t286.length co20)) (fun _ hk => hk.2) (.string t289)) (fun _ h_ => h_.1))) hb); have n4_ := Aside0.mk (bB_ (g := gb281) (o := .cells #[.int .i64 t274, .slice Ao13 t275.length co13, .string t278] 25 (0, 0)) (by (with_reducible repeat (first | refine bN_ ?_ _ | refine bD_ ?_ | refine bA_ ?_ _)); refine blk_far ?_ NB281_292.1 _; (with_reducible repeat (first | refine bN_ ?_ _ | refine bD_ ?_ | refine bA_ ?_ _)); refine blk_far ?_ NB281_292.1 _; (with_reducible repeat (first | refine bN_ ?_ _ | refine bD_ ?_ | refine bA_ ?_ _)); refine blk_far ?_ NB281_292.1 _; (with_reducible repeat (first | refine bN_ ?_ _ | refine bD_ ?_ | refine bA_ ?_ _)); exact BK281.1) hb); have n5_ := Aside0.mk (bB_ (g := gb292) (o := .cells #[.int .i64 t285, .slice Ao20 t286.length co20, .string t289] 25 (0, 0)) (by (with_reducible repeat (first | refine bN_ ?_ _ | refine bD_ ?_ | refine bA_ ?_ _)); refine blk_put (cs := #[.int .i64 t285, .slice Ao20 t286.length co20, .string (⟨#[]⟩ : ByteArray)]) ?_ 2 _ rfl; (with_reducible repeat (first | refine bN_ ?_ _ | refine bD_ ?_ | refine bA_ ?_ _)); refine blk_put (cs := #[.int .i64 t285, .slice none 0 0, .string (⟨#[]⟩ : ByteArray)]) ?_ 1 _ rfl; (with_reducible repeat (first | refine bN_ ?_ _ | refine bD_ ?_ | refine bA_ ?_ _)); refine blk_put (cs := #[.int .i64 0, .slice none 0 0, .string (⟨#[]⟩ : ByteArray)]) ?_ 0 _ rfl; (with_reducible repeat (first | refine bN_ ?_ _ | refine bD_ ?_ | refine bA_ ?_ _)); exact BK292.1) hb); have n6_ := Aside0.mk (below_step (by repeat (first | (with_reducible first | exact HB.1 | apply aB_ | apply pN_ | apply dB_ | refine sB_ ?_ GE281.1 | refine sB_ ?_ GE292.1) | exact HB.1)) hb); clear HO273 HO277; clear HO284 HO288; clear BK281 BK292 HB; have HO273 := n0_; have HO277 := n1_; have HO284 := n2_; have HO288 := n3_; have BK281 := n4_; have BK292 := n5_; have HB := n6_; clear n0_ n1_ n2_ n3_ n4_ n5_ n6_; (try clear hb); (try clear hb2); (try clear hk); (try clear hi)))
     go_meet
     case rel => exact ⟨_, ((t291 != t280)), (by first | rfl | (simp; done) | (simp [*]; done) | (simp [empty_ne, *]; done)), H', ⟨by first | omega | exact Nat.le_refl _⟩, ⟨by (with_reducible repeat (first | apply rA_ | apply rN_ | apply rD_)); exact Kd.R_mono HO284.1 (fun _ hk => trivial)⟩, ⟨by (with_reducible repeat (first | apply rA_ | apply rN_ | apply rD_)); exact Kd.R_mono HO277.1 (fun _ hk => hk.2)⟩, ⟨by (with_reducible repeat (first | apply rA_ | apply rN_ | apply rD_)); exact Kd.R_mono HO288.1 (fun _ hk => hk.2)⟩, ⟨by (with_reducible repeat (first | refine bN_ ?_ _ | refine bD_ ?_ | refine bA_ ?_ _)); exact BK281.1⟩, ⟨by (with_reducible repeat (first | refine bN_ ?_ _ | refine bD_ ?_ | refine bA_ ?_ _)); exact BK292.1⟩, ⟨by repeat (first | (with_reducible first | exact HB.1 | apply aB_ | apply pN_ | apply dB_ | refine sB_ ?_ GE281.1 | refine sB_ ?_ GE292.1) | exact HB.1)⟩⟩
    ·rw [if_neg c23] at H
     have c23b0 : (t290 == t279) = false := beq_eq_false_iff_ne.mpr c23
     have c23b1 : (t290 != t279) = true := bne_iff_ne.mpr c23
     (first | rw [c23b0] | (simp only [i64_w, i32_w]; rw [c23b0]) | skip)
     exact absurd H (laws_FnExactGetResp.j0_true _ _ _ _ _ _ _ _ _ _ _ _ _)
   ·replace c22 := Bool.eq_false_iff.mpr c22
    subst c22
    have H1 : (laws_FnExactGetResp.j0 k l0 t279 t280 t271 t290 t291 true t274 t275 t278 t285 t286 t289) = some true := by rw [if_neg (show ¬ (false = true) by decide)] at H; exact H
    clear H
    have H := H1
    clear H1
    exact absurd H (laws_FnExactGetResp.j0_true _ _ _ _ _ _ _ _ _ _ _ _ _)
  case rest =>
   clear HC7
   try clear c1
   try clear c2
   try clear c2b0
   try clear c2b1
   try clear p2
   try clear c3
   try clear c12
   try clear c13
   try clear c14
   try clear c15
   try clear c18
   try clear c22
   try clear c23
   try clear c23b0
   try clear c23b1
   try clear c24
   try clear c28
   try clear c32
   try clear hcz12_0
   try clear hcz12_1
   try clear hcz12_2
   try clear hcz19_0
   try clear hcz19_1
   try clear hcz19_2
   try clear hcz25_0
   try clear hcz25_1
   try clear hcz25_2
   try clear hcz26_0
   try clear hcz26_1
   try clear hcz26_2
   try clear hcz29_0
   try clear hcz29_1
   try clear hcz29_2
   try clear hcz30_0
   try clear hcz30_1
   try clear hcz30_2
   try clear hcz33_0
   try clear hcz33_1
   try clear hcz33_2
   try clear hcz34_0
   try clear hcz34_1
   try clear hcz34_2
   try clear hfz12_0
   try clear hfz12_1
   try clear hfz12_2
   try clear hfz19_0
   try clear hfz19_1
   try clear hfz19_2
   try clear hfz25_0
   try clear hfz25_1
   try clear hfz25_2
   try clear hfz26_0
   try clear hfz26_1
   try clear hfz26_2
   try clear hfz29_0
   try clear hfz29_1
   try clear hfz29_2
   try clear hfz30_0
   try clear hfz30_1
   try clear hfz30_2
   try clear hfz33_0
   try clear hfz33_1
   try clear hfz33_2
   try clear hfz34_0
   try clear hfz34_1
   try clear hfz34_2
   obtain ⟨kq, x47_6, rfl, HA, HJ6, HO_6, HO_282001, HO_293001, BK281, BK292, HB⟩ := hcut
   cases kq with
   | zero => exact absurd HA.1 (by simp [laws_FnExactGetResp.j0])
   | succ kj6 =>
    have H := HA.1
    clear HA
    simp only [laws_FnExactGetResp.j0] at H
    by_cases c36 : x47_6 = true
    ·subst c36
     have H1 : (some false) = some true := by rw [if_pos rfl] at H; exact H
     clear H
     have H := H1
     clear H1
     have hr_ := Option.some.inj H
     go_wp2
     go_ret
     exact ⟨by first | rfl | exact absurd hr_ (by decide) | (rw [hr_]; done) | (simp only [hr_]; done) | (simp [errW_none, errW_some] <;> rfl) | (simp [*, errW_none, errW_some] <;> rfl), by repeat (first | (with_reducible first | exact HB.1 | apply aB_ | apply pN_ | apply dB_ | refine sB_ ?_ GE281.1 | refine sB_ ?_ GE292.1) | exact HB.1)⟩
    ·replace c36 := Bool.eq_false_iff.mpr c36
     subst c36
     have H1 : ((laws_toByteS.f kj6 l0).bind fun t294 => ((laws_eqByteS.f kj6 t271 t294).bind fun t297 => (if t297 = true then ((laws_markByteS.f kj6 t271 1).bind fun bt298 => (if bt298.1 < 0 then (laws_FnExactGetResp.j1 kj6 l0 t279 t280 true t274 t275 t278 t285 t286 t289) else ((laws_eqResp.f kj6 t285 t286 t289 t274 t275 t278).bind fun t300 => (if t300 = true then (if t290 = t279 then (laws_FnExactGetResp.j1 kj6 l0 t279 t280 (t291 != t280) t274 t275 t278 t285 t286 t289) else (laws_FnExactGetResp.j1 kj6 l0 t279 t280 true t274 t275 t278 t285 t286 t289)) else (laws_FnExactGetResp.j1 kj6 l0 t279 t280 true t274 t275 t278 t285 t286 t289))))) else (some false)))) = some true := by rw [if_neg (show ¬ (false = true) by decide)] at H; exact H
     clear H
     have H := H1
     clear H1
     replace H := Option.bind_eq_some_iff.mp H
     obtain ⟨t294, A370, H⟩ := H
     replace H : ((laws_eqByteS.f kj6 t271 t294).bind fun t297 => (if t297 = true then ((laws_markByteS.f kj6 t271 1).bind fun bt298 => (if bt298.1 < 0 then (laws_FnExactGetResp.j1 kj6 l0 t279 t280 true t274 t275 t278 t285 t286 t289) else ((laws_eqResp.f kj6 t285 t286 t289 t274 t275 t278).bind fun t300 => (if t300 = true then (if t290 = t279 then (laws_FnExactGetResp.j1 kj6 l0 t279 t280 (t291 != t280) t274 t275 t278 t285 t286 t289) else (laws_FnExactGetResp.j1 kj6 l0 t279 t280 true t274 t275 t278 t285 t286 t289)) else (laws_FnExactGetResp.j1 kj6 l0 t279 t280 true t274 t275 t278 t285 t286 t289))))) else (some false))) = some true := H
     have A37 := Aside0.mk A370
     clear A370
     replace H := Option.bind_eq_some_iff.mp H
     obtain ⟨t297, A380, H⟩ := H
     replace H : (if t297 = true then ((laws_markByteS.f kj6 t271 1).bind fun bt298 => (if bt298.1 < 0 then (laws_FnExactGetResp.j1 kj6 l0 t279 t280 true t274 t275 t278 t285 t286 t289) else ((laws_eqResp.f kj6 t285 t286 t289 t274 t275 t278).bind fun t300 => (if t300 = true then (if t290 = t279 then (laws_FnExactGetResp.j1 kj6 l0 t279 t280 (t291 != t280) t274 t275 t278 t285 t286 t289) else (laws_FnExactGetResp.j1 kj6 l0 t279 t280 true t274 t275 t278 t285 t286 t289)) else (laws_FnExactGetResp.j1 kj6 l0 t279 t280 true t274 t275 t278 t285 t286 t289))))) else (some false)) = some true := H
     have A38 := Aside0.mk A380
     clear A380
     by_cases c39 : t297 = true
     ·subst c39
      have H1 : ((laws_markByteS.f kj6 t271 1).bind fun bt298 => (if bt298.1 < 0 then (laws_FnExactGetResp.j1 kj6 l0 t279 t280 true t274 t275 t278 t285 t286 t289) else ((laws_eqResp.f kj6 t285 t286 t289 t274 t275 t278).bind fun t300 => (if t300 = true then (if t290 = t279 then (laws_FnExactGetResp.j1 kj6 l0 t279 t280 (t291 != t280) t274 t275 t278 t285 t286 t289) else (laws_FnExactGetResp.j1 kj6 l0 t279 t280 true t274 t275 t278 t285 t286 t289)) else (laws_FnExactGetResp.j1 kj6 l0 t279 t280 true t274 t275 t278 t285 t286 t289))))) = some true := by rw [if_pos rfl] at H; exact H
      clear H
      have H := H1
      clear H1
      replace H := Option.bind_eq_some_iff.mp H
      obtain ⟨⟨t298, t299⟩, A400, H⟩ := H
      replace H : (if t298 < 0 then (laws_FnExactGetResp.j1 kj6 l0 t279 t280 true t274 t275 t278 t285 t286 t289) else ((laws_eqResp.f kj6 t285 t286 t289 t274 t275 t278).bind fun t300 => (if t300 = true then (if t290 = t279 then (laws_FnExactGetResp.j1 kj6 l0 t279 t280 (t291 != t280) t274 t275 t278 t285 t286 t289) else (laws_FnExactGetResp.j1 kj6 l0 t279 t280 true t274 t275 t278 t285 t286 t289)) else (laws_FnExactGetResp.j1 kj6 l0 t279 t280 true t274 t275 t278 t285 t286 t289)))) = some true := H
      have A40 := Aside0.mk A400
      clear A400
      have HC41 := Aside0.mk H
      clear H
      go_upto_region 12 with (first | ((with_reducible refine gate_callee (f := 13) rfl ?_); refine goesL_ (some 50) rfl rfl Tryz.func13 (by kernel_rfl) rfl #[.slice A0 l0.length c0] rfl (by (try simp only [List.map_toArray, List.map_cons, List.map_nil]); first | done | rfl | (simp only [List.length_drop, List.length_take]; rfl)) ?_; (with_reducible refine (laws_toByteS.calls kj6 _ _ l0 t294 _ ?side1 ?side2 A37.1).mono ?_); (case side1 => repeat (first | exact (Kd.C_below HR0.1 HB.1) | (with_reducible refine Kd.C_alloc ?_ _) | (with_reducible refine Kd.C_drewN ?_ _) | (with_reducible refine Kd.C_drew ?_))); (case side2 => exact HC0.1); rintro e w42 ⟨v295, rfl, ho0, hb⟩; refine ⟨_, rfl, ?_⟩; have n0_ := Aside0.mk (Kd.R_elder' (by (with_reducible repeat (first | apply rA_ | apply rN_ | apply rD_)); exact HO_6.1) (Kd.R_base ho0) hb); have n1_ := Aside0.mk (Kd.R_below (by (with_reducible repeat (first | apply rA_ | apply rN_ | apply rD_)); exact HO_282001.1) hb); have n2_ := Aside0.mk (Kd.R_below (by (with_reducible repeat (first | apply rA_ | apply rN_ | apply rD_)); exact HO_293001.1) hb); have n3_ := Aside0.mk (Kd.R_lower (Kd.R_new' ho0 (Kd.R_lt (by (with_reducible repeat (first | apply rA_ | apply rN_ | apply rD_)); exact HO_6.1))) (below_size (by repeat (first | (with_reducible first | exact HB.1 | apply aB_ | apply pN_ | apply dB_ | refine sB_ ?_ GE281.1 | refine sB_ ?_ GE292.1) | exact HB.1)))); have n4_ := Aside0.mk (bB_ (g := gb281) (o := .cells #[.int .i64 t274, .slice Ao13 t275.length co13, .string t278] 25 (0, 0)) (by (with_reducible repeat (first | refine bN_ ?_ _ | refine bD_ ?_ | refine bA_ ?_ _)); exact BK281.1) hb); have n5_ := Aside0.mk (bB_ (g := gb292) (o := .cells #[.int .i64 t285, .slice Ao20 t286.length co20, .string t289] 25 (0, 0)) (by (with_reducible repeat (first | refine bN_ ?_ _ | refine bD_ ?_ | refine bA_ ?_ _)); exact BK292.1) hb); have n6_ := Aside0.mk (below_step (by repeat (first | (with_reducible first | exact HB.1 | apply aB_ | apply pN_ | apply dB_ | refine sB_ ?_ GE281.1 | refine sB_ ?_ GE292.1) | exact HB.1)) hb); clear HO_6 HO_282001; clear HO_293001 BK281; clear BK292 HB; have HO_6 := n0_; have HO_282001 := n1_; have HO_293001 := n2_; have HO296 := n3_; have BK281 := n4_; have BK292 := n5_; have HB := n6_; clear n0_ n1_ n2_ n3_ n4_ n5_ n6_; (try clear hb); (try clear hb2); (try clear hk); (try clear hi); (try clear ho0); obtain ⟨Ao43, co43, eo43⟩ := Kd.R_slice HO296.1; subst eo43) | ((with_reducible refine gate_callee (f := 16) rfl ?_); refine goesL_ (some 51) rfl rfl Tryz.func16 (by kernel_rfl) rfl #[.slice Ao15 t271.length co15, .slice Ao43 t294.length co43] rfl (by (try simp only [List.map_toArray, List.map_cons, List.map_nil]); first | done | rfl | (simp only [List.length_drop, List.length_take]; rfl)) ?_; (with_reducible refine (laws_eqByteS.calls kj6 _ _ t271 _ _ t294 true _ ?side1 ?side2 ?side3 ?side4 A38.1).mono ?_); (case side1 => repeat (first | exact (Kd.R_reads' HO_6.1).2.2 | (with_reducible refine Kd.C_alloc ?_ _) | (with_reducible refine Kd.C_drewN ?_ _) | (with_reducible refine Kd.C_drew ?_))); (case side2 => exact (Kd.R_reads' HO_6.1).2.1); (case side3 => repeat (first | exact (Kd.R_reads' HO296.1).2.2 | (with_reducible refine Kd.C_alloc ?_ _) | (with_reducible refine Kd.C_drewN ?_ _) | (with_reducible refine Kd.C_drew ?_))); (case side4 => exact (Kd.R_reads' HO296.1).2.1); rintro e w' ⟨rfl, ⟨nd, rfl⟩⟩; refine ⟨_, rfl, ?_⟩) | ((with_reducible refine gate_callee (f := 17) rfl ?_); refine goesL_ (some 55) rfl rfl Tryz.func17 (by kernel_rfl) rfl #[.slice Ao15 t271.length co15, .int .i64 1] rfl (by (try simp only [List.map_toArray, List.map_cons, List.map_nil]); first | done | rfl | (simp only [List.length_drop, List.length_take]; rfl)) ?_; (with_reducible refine (laws_markByteS.calls kj6 (fun k_ => some k_ = (.slice Ao15 t271.length co15 : Value).ownBlock) (.slice Ao15 t271.length co15) t271 1 t298 t299 w _ ?side1 ?side2 A40.1).mono ?_); (case side1 => repeat (first | (with_reducible first | exact HB.1 | apply aB_ | apply pN_ | apply dB_ | refine sB_ ?_ GE281.1 | refine sB_ ?_ GE292.1) | exact HB.1)); (case side2 => exact Kd.R_tight rfl HO_6.1); rintro e w44 ⟨rfl, hy0, hb, hkp⟩; refine ⟨_, rfl, ?_⟩; have n0_ := Aside0.mk (Kd.R_reok rfl hy0 (fun k_ e_ => HO_6.1.1 k_ e_)); have n1_ := Aside0.mk (Kd.R_mono (ok' := fun k_ => some k_ ≠ (.slice Ao20 t286.length co20 : Value).ownBlock) (Kd.R_keptB ((Kd.R_apart' HO_282001.1 (Kd.R_typed HO_6.1) (by decide))) hkp (fun k_ hk_ hs_ => by first | exact (hk_.2) hs_ | exact hk_.1 hs_ | exact hk_.2 hs_ | exact hk_ hs_ | exact hk_.1.1 hs_ | exact hk_.1.2 hs_ | exact hk_.1.1.2 hs_)) (fun k_ hk_ => by first | exact hk_.1.1 | exact hk_.1.1 | exact hk_.1 | exact hk_.1.2 | exact hk_.2 | exact hk_)); have n2_ := Aside0.mk (Kd.R_mono (ok' := fun k_ => some k_ ≠ (.slice Ao13 t275.length co13 : Value).ownBlock) (Kd.R_keptB ((Kd.R_apart' HO_293001.1 (Kd.R_typed HO_6.1) (by decide))) hkp (fun k_ hk_ hs_ => by first | exact (hk_.2) hs_ | exact hk_.1 hs_ | exact hk_.2 hs_ | exact hk_ hs_ | exact hk_.1.1 hs_ | exact hk_.1.2 hs_ | exact hk_.1.1.2 hs_)) (fun k_ hk_ => by first | exact hk_.1.1 | exact hk_.1.1 | exact hk_.1 | exact hk_.1.2 | exact hk_.2 | exact hk_)); have n3_ := Aside0.mk (blk_kept (by (with_reducible repeat (first | refine bN_ ?_ _ | refine bD_ ?_ | refine bA_ ?_ _)); exact BK281.1) hkp (fun hs_ => (fun e_ => (Kd.R_ne HO_6.1 BK281.1 (by decide)) e_) hs_)); have n4_ := Aside0.mk (blk_kept (by (with_reducible repeat (first | refine bN_ ?_ _ | refine bD_ ?_ | refine bA_ ?_ _)); exact BK292.1) hkp (fun hs_ => (fun e_ => (Kd.R_ne HO_6.1 BK292.1 (by decide)) e_) hs_)); have n5_ := Aside0.mk (Kd.R_mono (ok' := fun k_ => some k_ ≠ (.slice Ao15 t271.length co15 : Value).ownBlock) (Kd.R_keptB (HO296.1) hkp (fun k_ hk_ hs_ => by first | exact (hk_.2) hs_ | exact hk_.1 hs_ | exact hk_.2 hs_ | exact hk_ hs_ | exact hk_.1.1 hs_ | exact hk_.1.2 hs_ | exact hk_.1.1.2 hs_)) (fun k_ hk_ => by first | exact hk_.1.2 | exact hk_.1.1 | exact hk_.1 | exact hk_.1.2 | exact hk_.2 | exact hk_)); have n6_ := Aside0.mk (hb); clear HO_6 HO_282001; clear HO_293001 BK281; clear BK292 HO296 HB; have HO_6 := n0_; have HO_282001 := n1_; have HO_293001 := n2_; have BK281 := n3_; have BK292 := n4_; have HO296 := n5_; have HB := n6_; clear n0_ n1_ n2_ n3_ n4_ n5_ n6_; (try clear hb); (try clear hkp); (try clear hy0)))
      (try simp only [Act.put, List.setIfInBounds_toArray, List.set_cons_zero, List.set_cons_succ])
      go_cut [73] (fun v73 wc => ∃ (kq : Nat) (x73_40 : Bool), v73 = .bool x73_40 ∧ Aside0 (laws_FnExactGetResp.j1 kq l0 t279 t280 x73_40 t274 t275 t278 t285 t286 t289 = some true) ∧ Aside0 (kq ≤ kj6) ∧ Aside0 (Kd.R k88 88 wc w.heap.size (fun k_ => some k_ ≠ ((.slice Ao20 t286.length co20) : Value).ownBlock) (.slice Ao13 t275.length co13) t275) ∧ Aside0 (Kd.R k88 88 wc w.heap.size (fun k_ => some k_ ≠ ((.slice Ao13 t275.length co13) : Value).ownBlock) (.slice Ao20 t286.length co20) t286) ∧ Aside0 (wc.heap[gb281]? = some (.cells #[.int .i64 t274, (.slice Ao13 t275.length co13), .string t278] 25 (0, 0))) ∧ Aside0 (wc.heap[gb292]? = some (.cells #[.int .i64 t285, (.slice Ao20 t286.length co20), .string t289] 25 (0, 0))) ∧ Aside0 (Below w.heap.size w wc))
      case first =>
       have H := HC41.1
       clear HC41
       by_cases c45 : t298 < 0
       ·rw [if_pos c45] at H
        have c45b0 : decide (t298 < 0) = true := decide_eq_true c45
        clear c45
        (first | rw [c45b0] | (simp only [i64_w, i32_w]; rw [c45b0]) | skip)
        exact absurd H (laws_FnExactGetResp.j1_true _ _ _ _ _ _ _ _ _ _)
       ·rw [if_neg c45] at H
        have c45b0 : decide (t298 < 0) = false := decide_eq_false c45
        clear c45
        (first | rw [c45b0] | (simp only [i64_w, i32_w]; rw [c45b0]) | skip)
        replace H := Option.bind_eq_some_iff.mp H
        obtain ⟨t300, A460, H⟩ := H
        replace H : (if t300 = true then (if t290 = t279 then (laws_FnExactGetResp.j1 kj6 l0 t279 t280 (t291 != t280) t274 t275 t278 t285 t286 t289) else (laws_FnExactGetResp.j1 kj6 l0 t279 t280 true t274 t275 t278 t285 t286 t289)) else (laws_FnExactGetResp.j1 kj6 l0 t279 t280 true t274 t275 t278 t285 t286 t289)) = some true := H
        have A46 := Aside0.mk A460
        clear A460
        by_cases c47 : t300 = true
        ·subst c47
         have H1 : (if t290 = t279 then (laws_FnExactGetResp.j1 kj6 l0 t279 t280 (t291 != t280) t274 t275 t278 t285 t286 t289) else (laws_FnExactGetResp.j1 kj6 l0 t279 t280 true t274 t275 t278 t285 t286 t289)) = some true := by rw [if_pos rfl] at H; exact H
         clear H
         have H := H1
         clear H1
         by_cases c48 : t290 = t279
         ·rw [if_pos c48] at H
          have c48b0 : (t290 == t279) = true := beq_iff_eq.mpr c48
          have c48b1 : (t290 != t279) = false := bne_eq_false_iff_eq.mpr c48
          clear c48
          have H' := Aside0.mk H
          clear H
          have hnb49 := NB292_281.1
          have hnc49 := NB281_292.1
          have hcz50_0 : w44.cell? ⟨gb292, 0, none⟩ = some (.int .i64 t285) := (bc_ BK292.1 0).trans rfl
          have hcz50_1 : w44.cell? ⟨gb292, 1, none⟩ = some (.slice Ao20 t286.length co20) := (bc_ BK292.1 1).trans rfl
          have hcz50_2 : w44.cell? ⟨gb292, 2, none⟩ = some (.string t289) := (bc_ BK292.1 2).trans rfl
          have hfz50_0 := bF_ BK292.1 0
          have hfz50_1 := bF_ BK292.1 1
          have hfz50_2 := bF_ BK292.1 2
          have hcz51_0 : w44.cell? ⟨gb281, 0, none⟩ = some (.int .i64 t274) := (bc_ BK281.1 0).trans rfl
          have hcz51_1 : w44.cell? ⟨gb281, 1, none⟩ = some (.slice Ao13 t275.length co13) := (bc_ BK281.1 1).trans rfl
          have hcz51_2 : w44.cell? ⟨gb281, 2, none⟩ = some (.string t278) := (bc_ BK281.1 2).trans rfl
          have hfz51_0 := bF_ BK281.1 0
          have hfz51_1 := bF_ BK281.1 1
          have hfz51_2 := bF_ BK281.1 2
          go_wp2_with (first | (go_at_call 15; (with_reducible refine (laws_eqResp.calls kj6 t285 _ _ t286 t289 t274 _ _ t275 t278 true _ ?side1 ?side2 ?side3 ?side4 A46.1).mono ?_); (case side1 => repeat (first | exact (Kd.R_reads' HO_293001.1).2.2 | (with_reducible refine Kd.C_alloc ?_ _) | (with_reducible refine Kd.C_drewN ?_ _) | (with_reducible refine Kd.C_drew ?_))); (case side2 => exact (Kd.R_reads' HO_293001.1).2.1); (case side3 => repeat (first | exact (Kd.R_reads' HO_282001.1).2.2 | (with_reducible refine Kd.C_alloc ?_ _) | (with_reducible refine Kd.C_drewN ?_ _) | (with_reducible refine Kd.C_drew ?_))); (case side4 => exact (Kd.R_reads' HO_282001.1).2.1); rintro e w52 ⟨rfl, hb⟩; have n0_ := Aside0.mk (Kd.R_below (by (with_reducible repeat (first | apply rA_ | apply rN_ | apply rD_)); exact HO_6.1) hb); have n1_ := Aside0.mk (Kd.R_below (by (with_reducible repeat (first | apply rA_ | apply rN_ | apply rD_)); exact HO_282001.1) hb); have n2_ := Aside0.mk (Kd.R_below (by (with_reducible repeat (first | apply rA_ | apply rN_ | apply rD_)); exact HO_293001.1) hb); have n3_ := Aside0.mk (Kd.R_below (by (with_reducible repeat (first | apply rA_ | apply rN_ | apply rD_)); exact HO296.1) hb); have n4_ := Aside0.mk (bB_ (g := gb281) (o := .cells #[.int .i64 t274, .slice Ao13 t275.length co13, .string t278] 25 (0, 0)) (by (with_reducible repeat (first | refine bN_ ?_ _ | refine bD_ ?_ | refine bA_ ?_ _)); exact BK281.1) hb); have n5_ := Aside0.mk (bB_ (g := gb292) (o := .cells #[.int .i64 t285, .slice Ao20 t286.length co20, .string t289] 25 (0, 0)) (by (with_reducible repeat (first | refine bN_ ?_ _ | refine bD_ ?_ | refine bA_ ?_ _)); exact BK292.1) hb); have n6_ := Aside0.mk (below_step (by repeat (first | (with_reducible first | exact HB.1 | apply aB_ | apply pN_ | apply dB_ | refine sB_ ?_ GE281.1 | refine sB_ ?_ GE292.1) | exact HB.1)) hb); clear HO_6 HO_282001; clear HO_293001 HO296; clear BK281 BK292 HB; have HO_6 := n0_; have HO_282001 := n1_; have HO_293001 := n2_; have HO296 := n3_; have BK281 := n4_; have BK292 := n5_; have HB := n6_; clear n0_ n1_ n2_ n3_ n4_ n5_ n6_; (try clear hb); (try clear hb2); (try clear hk); (try clear hi)))
          go_meet
          case rel => exact ⟨_, ((t291 != t280)), (by first | rfl | (simp; done) | (simp [*]; done) | (simp [empty_ne, *]; done)), H', ⟨by have := HJ6.1; first | omega | exact Nat.le_refl _⟩, ⟨by (with_reducible repeat (first | apply rA_ | apply rN_ | apply rD_)); first | exact HO_282001.1 | exact Kd.R_mono HO_282001.1 (fun k_ h_ e_ => h_ (e_.trans (ob_len _ _ _ _ _)))⟩, ⟨by (with_reducible repeat (first | apply rA_ | apply rN_ | apply rD_)); first | exact HO_293001.1 | exact Kd.R_mono HO_293001.1 (fun k_ h_ e_ => h_ (e_.trans (ob_len _ _ _ _ _)))⟩, ⟨by (with_reducible repeat (first | refine bN_ ?_ _ | refine bD_ ?_ | refine bA_ ?_ _)); exact BK281.1⟩, ⟨by (with_reducible repeat (first | refine bN_ ?_ _ | refine bD_ ?_ | refine bA_ ?_ _)); exact BK292.1⟩, ⟨by repeat (first | (with_reducible first | exact HB.1 | apply aB_ | apply pN_ | apply dB_ | refine sB_ ?_ GE281.1 | refine sB_ ?_ GE292.1) | exact HB.1)⟩⟩
         ·rw [if_neg c48] at H
          have c48b0 : (t290 == t279) = false := beq_eq_false_iff_ne.mpr c48
          have c48b1 : (t290 != t279) = true := bne_iff_ne.mpr c48
          exact absurd H (laws_FnExactGetResp.j1_true _ _ _ _ _ _ _ _ _ _)
        ·replace c47 := Bool.eq_false_iff.mpr c47
         subst c47
         have H1 : (laws_FnExactGetResp.j1 kj6 l0 t279 t280 true t274 t275 t278 t285 t286 t289) = some true := by rw [if_neg (show ¬ (false = true) by decide)] at H; exact H
         clear H
         have H := H1
         clear H1
         exact absurd H (laws_FnExactGetResp.j1_true _ _ _ _ _ _ _ _ _ _)
      case rest =>
       clear HC41
       try clear c1
       try clear c2
       try clear c2b0
       try clear c2b1
       try clear p2
       try clear c3
       try clear c4
       try clear c5
       try clear c12
       try clear c13
       try clear c14
       try clear c15
       try clear c16
       try clear c17
       try clear c18
       try clear c22
       try clear c23
       try clear c23b0
       try clear c23b1
       try clear c24
       try clear c28
       try clear c32
       try clear c36
       try clear c39
       try clear c45
       try clear c45b0
       try clear c47
       try clear c48
       try clear c48b0
       try clear c48b1
       try clear c49
       try clear c53
       try clear c57
       try clear hcz12_0
       try clear hcz12_1
       try clear hcz12_2
       try clear hcz19_0
       try clear hcz19_1
       try clear hcz19_2
       try clear hcz25_0
       try clear hcz25_1
       try clear hcz25_2
       try clear hcz26_0
       try clear hcz26_1
       try clear hcz26_2
       try clear hcz29_0
       try clear hcz29_1
       try clear hcz29_2
       try clear hcz30_0
       try clear hcz30_1
       try clear hcz30_2
       try clear hcz33_0
       try clear hcz33_1
       try clear hcz33_2
       try clear hcz34_0
       try clear hcz34_1
       try clear hcz34_2
       try clear hcz50_0
       try clear hcz50_1
       try clear hcz50_2
       try clear hcz51_0
       try clear hcz51_1
       try clear hcz51_2
       try clear hcz54_0
       try clear hcz54_1
       try clear hcz54_2
       try clear hcz55_0
       try clear hcz55_1
       try clear hcz55_2
       try clear hcz58_0
       try clear hcz58_1
       try clear hcz58_2
       try clear hcz59_0
       try clear hcz59_1
       try clear hcz59_2
       try clear hfz12_0
       try clear hfz12_1
       try clear hfz12_2
       try clear hfz19_0
       try clear hfz19_1
       try clear hfz19_2
       try clear hfz25_0
       try clear hfz25_1
       try clear hfz25_2
       try clear hfz26_0
       try clear hfz26_1
       try clear hfz26_2
       try clear hfz29_0
       try clear hfz29_1
       try clear hfz29_2
       try clear hfz30_0
       try clear hfz30_1
       try clear hfz30_2
       try clear hfz33_0
       try clear hfz33_1
       try clear hfz33_2
       try clear hfz34_0
       try clear hfz34_1
       try clear hfz34_2
       try clear hfz50_0
       try clear hfz50_1
       try clear hfz50_2
       try clear hfz51_0
       try clear hfz51_1
       try clear hfz51_2
       try clear hfz54_0
       try clear hfz54_1
       try clear hfz54_2
       try clear hfz55_0
       try clear hfz55_1
       try clear hfz55_2
       try clear hfz58_0
       try clear hfz58_1
       try clear hfz58_2
       try clear hfz59_0
       try clear hfz59_1
       try clear hfz59_2
       try clear p2
       obtain ⟨kq, x73_40, rfl, HA, HJ40, HO_282001, HO_293001, BK281, BK292, HB⟩ := hcut
       cases kq with
       | zero => exact absurd HA.1 (by simp [laws_FnExactGetResp.j1])
       | succ kj40 =>
        have H := HA.1
        clear HA
        simp only [laws_FnExactGetResp.j1] at H
        by_cases c61 : x73_40 = true
        ·subst c61
         have H1 : (some false) = some true := by rw [if_pos rfl] at H; exact H
         clear H
         have H := H1
         clear H1
         have hr_ := Option.some.inj H
         go_wp2
         go_ret
         exact ⟨by first | rfl | exact absurd hr_ (by decide) | (rw [hr_]; done) | (simp only [hr_]; done) | (simp [errW_none, errW_some] <;> rfl) | (simp [*, errW_none, errW_some] <;> rfl), by repeat (first | (with_reducible first | exact HB.1 | apply aB_ | apply pN_ | apply dB_ | refine sB_ ?_ GE281.1 | refine sB_ ?_ GE292.1) | exact HB.1)⟩
        ·replace c61 := Bool.eq_false_iff.mpr c61
         subst c61
         have H1 : ((laws_markResp.f kj40 t285 t286 t289 1).bind fun bt301 => ((laws_heldResp.f kj40 t285 bt301.2 t289 1).bind fun t303 => (if t303 < 0 then (some false) else (if t303 = bt301.1 then ((laws_toByteS.f kj40 l0).bind fun t304 => ((impl_GetResp.f kj40 t304).bind fun bt307 => ((laws_eqResp.f kj40 bt307.1 bt307.2.1 bt307.2.2.1 t274 t275 t278).bind fun t315 => (if t315 = true then (if bt307.2.2.2.1 = t279 then (laws_FnExactGetResp.j2 kj40 bt301.1 (bt307.2.2.2.2 != t280) t285 bt301.2 t289) else (laws_FnExactGetResp.j2 kj40 bt301.1 true t285 bt301.2 t289)) else (laws_FnExactGetResp.j2 kj40 bt301.1 true t285 bt301.2 t289))))) else (some false))))) = some true := by rw [if_neg (show ¬ (false = true) by decide)] at H; exact H
         clear H
         have H := H1
         clear H1
         replace H := Option.bind_eq_some_iff.mp H
         obtain ⟨⟨t301, t302⟩, A620, H⟩ := H
         replace H : ((laws_heldResp.f kj40 t285 t302 t289 1).bind fun t303 => (if t303 < 0 then (some false) else (if t303 = t301 then ((laws_toByteS.f kj40 l0).bind fun t304 => ((impl_GetResp.f kj40 t304).bind fun bt307 => ((laws_eqResp.f kj40 bt307.1 bt307.2.1 bt307.2.2.1 t274 t275 t278).bind fun t315 => (if t315 = true then (if bt307.2.2.2.1 = t279 then (laws_FnExactGetResp.j2 kj40 t301 (bt307.2.2.2.2 != t280) t285 t302 t289) else (laws_FnExactGetResp.j2 kj40 t301 true t285 t302 t289)) else (laws_FnExactGetResp.j2 kj40 t301 true t285 t302 t289))))) else (some false)))) = some true := H
         have A62 := Aside0.mk A620
         clear A620
         replace H := Option.bind_eq_some_iff.mp H
         obtain ⟨t303, A630, H⟩ := H
         replace H : (if t303 < 0 then (some false) else (if t303 = t301 then ((laws_toByteS.f kj40 l0).bind fun t304 => ((impl_GetResp.f kj40 t304).bind fun bt307 => ((laws_eqResp.f kj40 bt307.1 bt307.2.1 bt307.2.2.1 t274 t275 t278).bind fun t315 => (if t315 = true then (if bt307.2.2.2.1 = t279 then (laws_FnExactGetResp.j2 kj40 t301 (bt307.2.2.2.2 != t280) t285 t302 t289) else (laws_FnExactGetResp.j2 kj40 t301 true t285 t302 t289)) else (laws_FnExactGetResp.j2 kj40 t301 true t285 t302 t289))))) else (some false))) = some true := H
         have A63 := Aside0.mk A630
         clear A630
         by_cases c64 : t303 < 0
         ·rw [if_pos c64] at H
          have c64b0 : decide (t303 < 0) = true := decide_eq_true c64
          clear c64
          have hr_ := Option.some.inj H
          have hnb65 := NB292_281.1
          have hnc65 := NB281_292.1
          have hcz66_0 : wc.cell? ⟨gb292, 0, none⟩ = some (.int .i64 t285) := (bc_ BK292.1 0).trans rfl
          have hcz66_1 : wc.cell? ⟨gb292, 1, none⟩ = some (.slice Ao20 t286.length co20) := (bc_ BK292.1 1).trans rfl
          have hcz66_2 : wc.cell? ⟨gb292, 2, none⟩ = some (.string t289) := (bc_ BK292.1 2).trans rfl
          have hfz66_0 := bF_ BK292.1 0
          have hfz66_1 := bF_ BK292.1 1
          have hfz66_2 := bF_ BK292.1 2
          go_wp2_with (first | ((with_reducible refine gate_callee (f := 18) rfl ?_); refine goesL_ (some 76) rfl rfl Tryz.func18 (by kernel_rfl) rfl #[.agg #[.int .i64 t285, .slice Ao20 t286.length co20, .string t289], .int .i64 1] rfl (by (try simp only [List.map_toArray, List.map_cons, List.map_nil]); first | done | rfl | (simp only [List.length_drop, List.length_take]; rfl)) ?_; (with_reducible refine (laws_markResp.calls kj40 t285 (fun k_ => some k_ = (.slice Ao20 t286.length co20 : Value).ownBlock) (.slice Ao20 t286.length co20) t286 t289 1 t301 t302 w _ ?side1 ?side2 A62.1).mono ?_); (case side1 => repeat (first | (with_reducible first | exact HB.1 | apply aB_ | apply pN_ | apply dB_ | refine sB_ ?_ GE281.1 | refine sB_ ?_ GE292.1) | exact HB.1)); (case side2 => exact Kd.R_tight rfl HO_293001.1); rintro e w67 ⟨rfl, hy0, hb, hkp⟩; refine ⟨_, rfl, ?_⟩; have n0_ := Aside0.mk (Kd.R_mono (ok' := fun k_ => some k_ ≠ (.slice Ao20 t286.length co20 : Value).ownBlock) (Kd.R_keptB (HO_282001.1) hkp (fun k_ hk_ hs_ => by first | exact (hk_) hs_ | exact hk_.1 hs_ | exact hk_.2 hs_ | exact hk_ hs_ | exact hk_.1.1 hs_ | exact hk_.1.2 hs_ | exact hk_.1.1.2 hs_)) (fun k_ hk_ => by first | exact hk_.1 | exact hk_.1.1 | exact hk_.1 | exact hk_.1.2 | exact hk_.2 | exact hk_)); have n1_ := Aside0.mk (Kd.R_reok rfl hy0 (fun k_ e_ => HO_293001.1.1 k_ e_)); have n2_ := Aside0.mk (blk_kept (by (with_reducible repeat (first | refine bN_ ?_ _ | refine bD_ ?_ | refine bA_ ?_ _)); exact BK281.1) hkp (fun hs_ => (fun e_ => (Kd.R_ne HO_293001.1 BK281.1 (by decide)) e_) hs_)); have n3_ := Aside0.mk (blk_kept (by (with_reducible repeat (first | refine bN_ ?_ _ | refine bD_ ?_ | refine bA_ ?_ _)); exact BK292.1) hkp (fun hs_ => (fun e_ => (Kd.R_ne HO_293001.1 BK292.1 (by decide)) e_) hs_)); have n4_ := Aside0.mk (hb); clear HO_282001 HO_293001; clear BK281 BK292 HB; have HO_282001 := n0_; have HO_293001 := n1_; have BK281 := n2_; have BK292 := n3_; have HB := n4_; clear n0_ n1_ n2_ n3_ n4_; (try clear hb); (try clear hkp); (try clear hy0); have hcz68_0 : w67.cell? ⟨gb292, 0, none⟩ = some (.int .i64 t285) := (bc_ BK292.1 0).trans rfl; have hcz68_1 : w67.cell? ⟨gb292, 1, none⟩ = some (.slice Ao20 t286.length co20) := (bc_ BK292.1 1).trans rfl; have hcz68_2 : w67.cell? ⟨gb292, 2, none⟩ = some (.string t289) := (bc_ BK292.1 2).trans rfl; have hfz68_0 := bF_ BK292.1 0; have hfz68_1 := bF_ BK292.1 1; have hfz68_2 := bF_ BK292.1 2) | ((with_reducible refine gate_callee (f := 19) rfl ?_); refine goesL_ (some 79) rfl rfl Tryz.func19 (by kernel_rfl) rfl #[.agg #[.int .i64 t285, .slice Ao20 t302.length co20, .string t289], .int .i64 1] rfl (by (try simp only [List.map_toArray, List.map_cons, List.map_nil]); first | done | (rw [show t302.length = t286.length from (Kd.R_reads' HO_293001.1).1.symm] <;> rfl) | rfl | (simp only [List.length_drop, List.length_take]; rfl)) ?_; (with_reducible refine (laws_heldResp.calls kj40 t285 _ _ t302 t289 1 t303 _ ?side1 ?side2 A63.1).mono ?_); (case side1 => repeat (first | exact (Kd.R_reads' HO_293001.1).2.2 | (with_reducible refine Kd.C_alloc ?_ _) | (with_reducible refine Kd.C_drewN ?_ _) | (with_reducible refine Kd.C_drew ?_))); (case side2 => rw [show t302.length = t286.length from (Kd.R_reads' HO_293001.1).1.symm]; exact (Kd.R_reads' HO_293001.1).2.1); rintro e w69 ⟨rfl, hb⟩; refine ⟨_, rfl, ?_⟩; have n0_ := Aside0.mk (Kd.R_below (by (with_reducible repeat (first | apply rA_ | apply rN_ | apply rD_)); exact HO_282001.1) hb); have n1_ := Aside0.mk (Kd.R_below (by (with_reducible repeat (first | apply rA_ | apply rN_ | apply rD_)); exact HO_293001.1) hb); have n2_ := Aside0.mk (bB_ (g := gb281) (o := .cells #[.int .i64 t274, .slice Ao13 t275.length co13, .string t278] 25 (0, 0)) (by (with_reducible repeat (first | refine bN_ ?_ _ | refine bD_ ?_ | refine bA_ ?_ _)); exact BK281.1) hb); have n3_ := Aside0.mk (bB_ (g := gb292) (o := .cells #[.int .i64 t285, .slice Ao20 t286.length co20, .string t289] 25 (0, 0)) (by (with_reducible repeat (first | refine bN_ ?_ _ | refine bD_ ?_ | refine bA_ ?_ _)); exact BK292.1) hb); have n4_ := Aside0.mk (below_step (by repeat (first | (with_reducible first | exact HB.1 | apply aB_ | apply pN_ | apply dB_ | refine sB_ ?_ GE281.1 | refine sB_ ?_ GE292.1) | exact HB.1)) hb); clear HO_282001 HO_293001; clear BK281 BK292 HB; have HO_282001 := n0_; have HO_293001 := n1_; have BK281 := n2_; have BK292 := n3_; have HB := n4_; clear n0_ n1_ n2_ n3_ n4_; (try clear hb); (try clear hb2); (try clear hk); (try clear hi)))
          go_ret
          exact ⟨by first | rfl | exact absurd hr_ (by decide) | (rw [hr_]; done) | (simp only [hr_]; done) | (simp [errW_none, errW_some] <;> rfl) | (simp [*, errW_none, errW_some] <;> rfl), by repeat (first | (with_reducible first | exact HB.1 | apply aB_ | apply pN_ | apply dB_ | refine sB_ ?_ GE281.1 | refine sB_ ?_ GE292.1) | exact HB.1)⟩
         ·rw [if_neg c64] at H
          have c64b0 : decide (t303 < 0) = false := decide_eq_false c64
          clear c64
          by_cases c70 : t303 = t301
          ·rw [if_pos c70] at H
           have c70b0 : (t303 == t301) = true := beq_iff_eq.mpr c70
           have c70b1 : (t303 != t301) = false := bne_eq_false_iff_eq.mpr c70
           clear c70
           replace H := Option.bind_eq_some_iff.mp H
           obtain ⟨t304, A710, H⟩ := H
           replace H : ((impl_GetResp.f kj40 t304).bind fun bt307 => ((laws_eqResp.f kj40 bt307.1 bt307.2.1 bt307.2.2.1 t274 t275 t278).bind fun t315 => (if t315 = true then (if bt307.2.2.2.1 = t279 then (laws_FnExactGetResp.j2 kj40 t301 (bt307.2.2.2.2 != t280) t285 t302 t289) else (laws_FnExactGetResp.j2 kj40 t301 true t285 t302 t289)) else (laws_FnExactGetResp.j2 kj40 t301 true t285 t302 t289)))) = some true := H
           have A71 := Aside0.mk A710
           clear A710
           replace H := Option.bind_eq_some_iff.mp H
           obtain ⟨⟨t307, t308, t311, t312, t313⟩, A720, H⟩ := H
           replace H : ((laws_eqResp.f kj40 t307 t308 t311 t274 t275 t278).bind fun t315 => (if t315 = true then (if t312 = t279 then (laws_FnExactGetResp.j2 kj40 t301 (t313 != t280) t285 t302 t289) else (laws_FnExactGetResp.j2 kj40 t301 true t285 t302 t289)) else (laws_FnExactGetResp.j2 kj40 t301 true t285 t302 t289))) = some true := H
           have A72 := Aside0.mk A720
           clear A720
           have HC73 := Aside0.mk H
           clear H
           have hnb74 := NB292_281.1
           have hnc74 := NB281_292.1
           have hcz75_0 : wc.cell? ⟨gb292, 0, none⟩ = some (.int .i64 t285) := (bc_ BK292.1 0).trans rfl
           have hcz75_1 : wc.cell? ⟨gb292, 1, none⟩ = some (.slice Ao20 t286.length co20) := (bc_ BK292.1 1).trans rfl
           have hcz75_2 : wc.cell? ⟨gb292, 2, none⟩ = some (.string t289) := (bc_ BK292.1 2).trans rfl
           have hfz75_0 := bF_ BK292.1 0
           have hfz75_1 := bF_ BK292.1 1
           have hfz75_2 := bF_ BK292.1 2
           go_upto_region 23 with (first | ((with_reducible refine gate_callee (f := 18) rfl ?_); refine goesL_ (some 76) rfl rfl Tryz.func18 (by kernel_rfl) rfl #[.agg #[.int .i64 t285, .slice Ao20 t286.length co20, .string t289], .int .i64 1] rfl (by (try simp only [List.map_toArray, List.map_cons, List.map_nil]); first | done | rfl | (simp only [List.length_drop, List.length_take]; rfl)) ?_; (with_reducible refine (laws_markResp.calls kj40 t285 (fun k_ => some k_ = (.slice Ao20 t286.length co20 : Value).ownBlock) (.slice Ao20 t286.length co20) t286 t289 1 t301 t302 w _ ?side1 ?side2 A62.1).mono ?_); (case side1 => repeat (first | (with_reducible first | exact HB.1 | apply aB_ | apply pN_ | apply dB_ | refine sB_ ?_ GE281.1 | refine sB_ ?_ GE292.1) | exact HB.1)); (case side2 => exact Kd.R_tight rfl HO_293001.1); rintro e w76 ⟨rfl, hy0, hb, hkp⟩; refine ⟨_, rfl, ?_⟩; have n0_ := Aside0.mk (Kd.R_mono (ok' := fun k_ => some k_ ≠ (.slice Ao20 t286.length co20 : Value).ownBlock) (Kd.R_keptB (HO_282001.1) hkp (fun k_ hk_ hs_ => by first | exact (hk_) hs_ | exact hk_.1 hs_ | exact hk_.2 hs_ | exact hk_ hs_ | exact hk_.1.1 hs_ | exact hk_.1.2 hs_ | exact hk_.1.1.2 hs_)) (fun k_ hk_ => by first | exact hk_.1 | exact hk_.1.1 | exact hk_.1 | exact hk_.1.2 | exact hk_.2 | exact hk_)); have n1_ := Aside0.mk (Kd.R_reok rfl hy0 (fun k_ e_ => HO_293001.1.1 k_ e_)); have n2_ := Aside0.mk (blk_kept (by (with_reducible repeat (first | refine bN_ ?_ _ | refine bD_ ?_ | refine bA_ ?_ _)); exact BK281.1) hkp (fun hs_ => (fun e_ => (Kd.R_ne HO_293001.1 BK281.1 (by decide)) e_) hs_)); have n3_ := Aside0.mk (blk_kept (by (with_reducible repeat (first | refine bN_ ?_ _ | refine bD_ ?_ | refine bA_ ?_ _)); exact BK292.1) hkp (fun hs_ => (fun e_ => (Kd.R_ne HO_293001.1 BK292.1 (by decide)) e_) hs_)); have n4_ := Aside0.mk (hb); clear HO_282001 HO_293001; clear BK281 BK292 HB; have HO_282001 := n0_; have HO_293001 := n1_; have BK281 := n2_; have BK292 := n3_; have HB := n4_; clear n0_ n1_ n2_ n3_ n4_; (try clear hb); (try clear hkp); (try clear hy0); have hcz77_0 : w76.cell? ⟨gb292, 0, none⟩ = some (.int .i64 t285) := (bc_ BK292.1 0).trans rfl; have hcz77_1 : w76.cell? ⟨gb292, 1, none⟩ = some (.slice Ao20 t286.length co20) := (bc_ BK292.1 1).trans rfl; have hcz77_2 : w76.cell? ⟨gb292, 2, none⟩ = some (.string t289) := (bc_ BK292.1 2).trans rfl; have hfz77_0 := bF_ BK292.1 0; have hfz77_1 := bF_ BK292.1 1; have hfz77_2 := bF_ BK292.1 2) | ((with_reducible refine gate_callee (f := 19) rfl ?_); refine goesL_ (some 79) rfl rfl Tryz.func19 (by kernel_rfl) rfl #[.agg #[.int .i64 t285, .slice Ao20 t302.length co20, .string t289], .int .i64 1] rfl (by (try simp only [List.map_toArray, List.map_cons, List.map_nil]); first | done | (rw [show t302.length = t286.length from (Kd.R_reads' HO_293001.1).1.symm] <;> rfl) | rfl | (simp only [List.length_drop, List.length_take]; rfl)) ?_; (with_reducible refine (laws_heldResp.calls kj40 t285 _ _ t302 t289 1 t303 _ ?side1 ?side2 A63.1).mono ?_); (case side1 => repeat (first | exact (Kd.R_reads' HO_293001.1).2.2 | (with_reducible refine Kd.C_alloc ?_ _) | (with_reducible refine Kd.C_drewN ?_ _) | (with_reducible refine Kd.C_drew ?_))); (case side2 => rw [show t302.length = t286.length from (Kd.R_reads' HO_293001.1).1.symm]; exact (Kd.R_reads' HO_293001.1).2.1); rintro e w78 ⟨rfl, hb⟩; refine ⟨_, rfl, ?_⟩; have n0_ := Aside0.mk (Kd.R_below (by (with_reducible repeat (first | apply rA_ | apply rN_ | apply rD_)); exact HO_282001.1) hb); have n1_ := Aside0.mk (Kd.R_below (by (with_reducible repeat (first | apply rA_ | apply rN_ | apply rD_)); exact HO_293001.1) hb); have n2_ := Aside0.mk (bB_ (g := gb281) (o := .cells #[.int .i64 t274, .slice Ao13 t275.length co13, .string t278] 25 (0, 0)) (by (with_reducible repeat (first | refine bN_ ?_ _ | refine bD_ ?_ | refine bA_ ?_ _)); exact BK281.1) hb); have n3_ := Aside0.mk (bB_ (g := gb292) (o := .cells #[.int .i64 t285, .slice Ao20 t286.length co20, .string t289] 25 (0, 0)) (by (with_reducible repeat (first | refine bN_ ?_ _ | refine bD_ ?_ | refine bA_ ?_ _)); exact BK292.1) hb); have n4_ := Aside0.mk (below_step (by repeat (first | (with_reducible first | exact HB.1 | apply aB_ | apply pN_ | apply dB_ | refine sB_ ?_ GE281.1 | refine sB_ ?_ GE292.1) | exact HB.1)) hb); clear HO_282001 HO_293001; clear BK281 BK292 HB; have HO_282001 := n0_; have HO_293001 := n1_; have BK281 := n2_; have BK292 := n3_; have HB := n4_; clear n0_ n1_ n2_ n3_ n4_; (try clear hb); (try clear hb2); (try clear hk); (try clear hi)) | ((with_reducible refine gate_callee (f := 13) rfl ?_); refine goesL_ (some 87) rfl rfl Tryz.func13 (by kernel_rfl) rfl #[.slice A0 l0.length c0] rfl (by (try simp only [List.map_toArray, List.map_cons, List.map_nil]); first | done | rfl | (simp only [List.length_drop, List.length_take]; rfl)) ?_; (with_reducible refine (laws_toByteS.calls kj40 _ _ l0 t304 _ ?side1 ?side2 A71.1).mono ?_); (case side1 => repeat (first | exact (Kd.C_below HR0.1 HB.1) | (with_reducible refine Kd.C_alloc ?_ _) | (with_reducible refine Kd.C_drewN ?_ _) | (with_reducible refine Kd.C_drew ?_))); (case side2 => exact HC0.1); rintro e w79 ⟨v305, rfl, ho0, hb⟩; refine ⟨_, rfl, ?_⟩; have n0_ := Aside0.mk (Kd.R_below (by (with_reducible repeat (first | apply rA_ | apply rN_ | apply rD_)); exact HO_282001.1) hb); have n1_ := Aside0.mk (Kd.R_below (by (with_reducible repeat (first | apply rA_ | apply rN_ | apply rD_)); exact HO_293001.1) hb); have n2_ := Aside0.mk (Kd.R_lower ho0 (below_size (by repeat (first | (with_reducible first | exact HB.1 | apply aB_ | apply pN_ | apply dB_ | refine sB_ ?_ GE281.1 | refine sB_ ?_ GE292.1) | exact HB.1)))); have n3_ := Aside0.mk (bB_ (g := gb281) (o := .cells #[.int .i64 t274, .slice Ao13 t275.length co13, .string t278] 25 (0, 0)) (by (with_reducible repeat (first | refine bN_ ?_ _ | refine bD_ ?_ | refine bA_ ?_ _)); exact BK281.1) hb); have n4_ := Aside0.mk (bB_ (g := gb292) (o := .cells #[.int .i64 t285, .slice Ao20 t286.length co20, .string t289] 25 (0, 0)) (by (with_reducible repeat (first | refine bN_ ?_ _ | refine bD_ ?_ | refine bA_ ?_ _)); exact BK292.1) hb); have n5_ := Aside0.mk (below_step (by repeat (first | (with_reducible first | exact HB.1 | apply aB_ | apply pN_ | apply dB_ | refine sB_ ?_ GE281.1 | refine sB_ ?_ GE292.1) | exact HB.1)) hb); clear HO_282001 HO_293001; clear BK281 BK292 HB; have HO_282001 := n0_; have HO_293001 := n1_; have HO306 := n2_; have BK281 := n3_; have BK292 := n4_; have HB := n5_; clear n0_ n1_ n2_ n3_ n4_ n5_; (try clear hb); (try clear hb2); (try clear hk); (try clear hi); (try clear ho0); obtain ⟨Ao80, co80, eo80⟩ := Kd.R_slice HO306.1; subst eo80) | ((with_reducible refine gate_callee (f := 14) rfl ?_); refine goesL_ (some 88) rfl rfl Tryz.func14 (by kernel_rfl) rfl #[.slice Ao80 t304.length co80] rfl (by (try simp only [List.map_toArray, List.map_cons, List.map_nil]); first | done | rfl | (simp only [List.length_drop, List.length_take]; rfl)) ?_; (with_reducible refine (impl_GetResp.calls kj40 _ _ t304 t307 t308 t311 t312 t313 _ ?side1 ?side2 A72.1 ?side99).mono ?_); (case side1 => repeat (first | exact (Kd.R_reads' HO306.1).2.2 | (with_reducible refine Kd.C_alloc ?_ _) | (with_reducible refine Kd.C_drewN ?_ _) | (with_reducible refine Kd.C_drew ?_))); (case side2 => exact (Kd.R_reads' HO306.1).2.1); (case side99 => first | (with_reducible exact hG) | (refine GOK_below hG ?_; (repeat (first | (with_reducible first | exact HB.1 | apply aB_ | apply pN_ | apply dB_ | refine sB_ ?_ GE281.1 | refine sB_ ?_ GE292.1 | refine sB_ ?_ GE314.1) | exact HB.1)); done) | (refine GOK_drawn hG ?_; (repeat (first | exact Drawn0.refl _ | apply Drawn0.step)); done) | exact hG); rintro e w81 ⟨v309, rfl, ho0, hb⟩; refine ⟨_, rfl, ?_⟩; have n0_ := Aside0.mk (Kd.R_elder' (by (with_reducible repeat (first | apply rA_ | apply rN_ | apply rD_)); exact HO_282001.1) (Kd.R_base ho0) hb); have n1_ := Aside0.mk (Kd.R_elder' (by (with_reducible repeat (first | apply rA_ | apply rN_ | apply rD_)); exact HO_293001.1) (Kd.R_base ho0) hb); have n2_ := Aside0.mk (Kd.R_below (by (with_reducible repeat (first | apply rA_ | apply rN_ | apply rD_)); exact HO306.1) hb); have n3_ := Aside0.mk (Kd.R_lower (Kd.R_new' (Kd.R_new' ho0 (Kd.R_lt (by (with_reducible repeat (first | apply rA_ | apply rN_ | apply rD_)); exact HO_282001.1))) (Kd.R_lt (by (with_reducible repeat (first | apply rA_ | apply rN_ | apply rD_)); exact HO_293001.1))) (below_size (by repeat (first | (with_reducible first | exact HB.1 | apply aB_ | apply pN_ | apply dB_ | refine sB_ ?_ GE281.1 | refine sB_ ?_ GE292.1) | exact HB.1)))); have n4_ := Aside0.mk (bB_ (g := gb281) (o := .cells #[.int .i64 t274, .slice Ao13 t275.length co13, .string t278] 25 (0, 0)) (by (with_reducible repeat (first | refine bN_ ?_ _ | refine bD_ ?_ | refine bA_ ?_ _)); exact BK281.1) hb); have n5_ := Aside0.mk (bB_ (g := gb292) (o := .cells #[.int .i64 t285, .slice Ao20 t286.length co20, .string t289] 25 (0, 0)) (by (with_reducible repeat (first | refine bN_ ?_ _ | refine bD_ ?_ | refine bA_ ?_ _)); exact BK292.1) hb); have n6_ := Aside0.mk (below_step (by repeat (first | (with_reducible first | exact HB.1 | apply aB_ | apply pN_ | apply dB_ | refine sB_ ?_ GE281.1 | refine sB_ ?_ GE292.1) | exact HB.1)) hb); clear HO_282001 HO_293001; clear HO306 BK281; clear BK292 HB; have HO_282001 := n0_; have HO_293001 := n1_; have HO306 := n2_; have HO310 := n3_; have BK281 := n4_; have BK292 := n5_; have HB := n6_; clear n0_ n1_ n2_ n3_ n4_ n5_ n6_; (try clear hb); (try clear hb2); (try clear hk); (try clear hi); (try clear ho0)) | ((with_reducible refine gate_dst (N := 13) rfl ?_); refine box_event ?hg (N := 13) ?hd (cs := #[.int .i64 0, .slice none 0 0, .string (⟨#[]⟩ : ByteArray)]) (t := 25) ?hr ?_; (case hd => rfl); (case hg => rfl); (case hr => first | (go_simp; done) | (go_simp; rfl)); intro gb314 hg w82 hbox hb; have n0_ := Aside0.mk (Kd.R_below (by (with_reducible repeat (first | apply rA_ | apply rN_ | apply rD_)); exact HO_282001.1) hb); have n1_ := Aside0.mk (Kd.R_below (by (with_reducible repeat (first | apply rA_ | apply rN_ | apply rD_)); exact HO_293001.1) hb); have n2_ := Aside0.mk (Kd.R_below (by (with_reducible repeat (first | apply rA_ | apply rN_ | apply rD_)); exact HO306.1) hb); have n3_ := Aside0.mk (Kd.R_below (by (with_reducible repeat (first | apply rA_ | apply rN_ | apply rD_)); exact HO310.1) hb); have n4_ := Aside0.mk (bB_ (g := gb281) (o := .cells #[.int .i64 t274, .slice Ao13 t275.length co13, .string t278] 25 (0, 0)) (by (with_reducible repeat (first | refine bN_ ?_ _ | refine bD_ ?_ | refine bA_ ?_ _)); exact BK281.1) hb); have n5_ := Aside0.mk (bB_ (g := gb292) (o := .cells #[.int .i64 t285, .slice Ao20 t286.length co20, .string t289] 25 (0, 0)) (by (with_reducible repeat (first | refine bN_ ?_ _ | refine bD_ ?_ | refine bA_ ?_ _)); exact BK292.1) hb); have n6_ := Aside0.mk (below_step (by repeat (first | (with_reducible first | exact HB.1 | apply aB_ | apply pN_ | apply dB_ | refine sB_ ?_ GE281.1 | refine sB_ ?_ GE292.1) | exact HB.1)) hb); have n7_ := Aside0.mk (hbox); have n8_ := Aside0.mk ((by rw [hg]; exact (below_size (by repeat (first | (with_reducible first | exact HB.1 | apply aB_ | apply pN_ | apply dB_ | refine sB_ ?_ GE281.1 | refine sB_ ?_ GE292.1) | exact HB.1))) : w.heap.size ≤ gb314)); have n9_ := Aside0.mk ((by rw [hg]; exact (below_size (by repeat (first | (with_reducible first | exact HB.1 | apply aB_ | apply pN_ | apply dB_ | refine sB_ ?_ GE281.1 | refine sB_ ?_ GE292.1) | exact HB.1))) : w.heap.size ≤ gb314)); have n10_ := Aside0.mk ((by rw [hg]; exact Nat.ne_of_lt (blk_lt (g := gb281) (o := .cells #[.int .i64 t274, .slice Ao13 t275.length co13, .string t278] 25 (0, 0)) (by (with_reducible repeat (first | refine bN_ ?_ _ | refine bD_ ?_ | refine bA_ ?_ _)); exact BK281.1)) : gb281 ≠ gb314)); have n11_ := Aside0.mk ((by rw [hg]; exact Nat.ne_of_gt (blk_lt (g := gb281) (o := .cells #[.int .i64 t274, .slice Ao13 t275.length co13, .string t278] 25 (0, 0)) (by (with_reducible repeat (first | refine bN_ ?_ _ | refine bD_ ?_ | refine bA_ ?_ _)); exact BK281.1)) : gb314 ≠ gb281)); have n12_ := Aside0.mk ((by rw [hg]; exact Nat.ne_of_lt (blk_lt (g := gb292) (o := .cells #[.int .i64 t285, .slice Ao20 t286.length co20, .string t289] 25 (0, 0)) (by (with_reducible repeat (first | refine bN_ ?_ _ | refine bD_ ?_ | refine bA_ ?_ _)); exact BK292.1)) : gb292 ≠ gb314)); have n13_ := Aside0.mk ((by rw [hg]; exact Nat.ne_of_gt (blk_lt (g := gb292) (o := .cells #[.int .i64 t285, .slice Ao20 t286.length co20, .string t289] 25 (0, 0)) (by (with_reducible repeat (first | refine bN_ ?_ _ | refine bD_ ?_ | refine bA_ ?_ _)); exact BK292.1)) : gb314 ≠ gb292)); clear HO_282001 HO_293001; clear HO306 HO310; clear BK281 BK292 HB; have HO_282001 := n0_; have HO_293001 := n1_; have HO306 := n2_; have HO310 := n3_; have BK281 := n4_; have BK292 := n5_; have HB := n6_; have BK314 := n7_; have GW314 := n8_; have GE314 := n9_; have NB281_314 := n10_; have NB314_281 := n11_; have NB292_314 := n12_; have NB314_292 := n13_; clear n0_ n1_ n2_ n3_ n4_ n5_ n6_ n7_ n8_ n9_ n10_ n11_ n12_ n13_; clear hb hbox hg; have hnb83 := NB314_281.1; have hnc83 := NB281_314.1; have hnb84 := NB314_292.1; have hnc84 := NB292_314.1; have hcz85_0 : w82.cell? ⟨gb314, 0, none⟩ = some (.int .i64 0) := (bc_ BK314.1 0).trans rfl; have hcz85_1 : w82.cell? ⟨gb314, 1, none⟩ = some (.slice none 0 0) := (bc_ BK314.1 1).trans rfl; have hcz85_2 : w82.cell? ⟨gb314, 2, none⟩ = some (.string (⟨#[]⟩ : ByteArray)) := (bc_ BK314.1 2).trans rfl; have hfz85_0 := bF_ BK314.1 0; have hfz85_1 := bF_ BK314.1 1; have hfz85_2 := bF_ BK314.1 2; obtain ⟨Ao86, co86, eo86⟩ := Kd.R_slice HO310.1; subst eo86))
           (try simp only [Act.put, List.setIfInBounds_toArray, List.set_cons_zero, List.set_cons_succ])
           go_cut [105] (fun v105 wc => ∃ (kq : Nat) (x105_72 : Bool), v105 = .bool x105_72 ∧ Aside0 (laws_FnExactGetResp.j2 kq t301 x105_72 t285 t302 t289 = some true) ∧ Aside0 (kq ≤ kj40) ∧ Aside0 (Kd.R k88 88 wc w.heap.size (fun k_ => some k_ ≠ ((.slice Ao20 t286.length co20) : Value).ownBlock ∧ some k_ ≠ ((.slice Ao86 t308.length co86) : Value).ownBlock) (.slice Ao13 t275.length co13) t275) ∧ Aside0 (Kd.R k88 88 wc w.heap.size (fun k_ => some k_ ≠ ((.slice Ao13 t275.length co13) : Value).ownBlock ∧ some k_ ≠ ((.slice Ao86 t308.length co86) : Value).ownBlock) (.slice Ao20 t286.length co20) t302) ∧ Aside0 (Kd.R k88 88 wc w.heap.size (fun k_ => some k_ ≠ ((.slice Ao13 t275.length co13) : Value).ownBlock ∧ some k_ ≠ ((.slice Ao20 t286.length co20) : Value).ownBlock) (.slice Ao86 t308.length co86) t308) ∧ Aside0 (wc.heap[gb281]? = some (.cells #[.int .i64 t274, (.slice Ao13 t275.length co13), .string t278] 25 (0, 0))) ∧ Aside0 (wc.heap[gb292]? = some (.cells #[.int .i64 t285, (.slice Ao20 t286.length co20), .string t289] 25 (0, 0))) ∧ Aside0 (wc.heap[gb314]? = some (.cells #[.int .i64 t307, (.slice Ao86 t308.length co86), .string t311] 25 (0, 0))) ∧ Aside0 (Below w.heap.size w wc))
           case first =>
            have H := HC73.1
            clear HC73
            replace H := Option.bind_eq_some_iff.mp H
            obtain ⟨t315, A870, H⟩ := H
            replace H : (if t315 = true then (if t312 = t279 then (laws_FnExactGetResp.j2 kj40 t301 (t313 != t280) t285 t302 t289) else (laws_FnExactGetResp.j2 kj40 t301 true t285 t302 t289)) else (laws_FnExactGetResp.j2 kj40 t301 true t285 t302 t289)) = some true := H
            have A87 := Aside0.mk A870
            clear A870
            by_cases c88 : t315 = true
            ·subst c88
             have H1 : (if t312 = t279 then (laws_FnExactGetResp.j2 kj40 t301 (t313 != t280) t285 t302 t289) else (laws_FnExactGetResp.j2 kj40 t301 true t285 t302 t289)) = some true := by rw [if_pos rfl] at H; exact H
             clear H
             have H := H1
             clear H1
             by_cases c89 : t312 = t279
             ·rw [if_pos c89] at H
              have c89b0 : (t312 == t279) = true := beq_iff_eq.mpr c89
              have c89b1 : (t312 != t279) = false := bne_eq_false_iff_eq.mpr c89
              clear c89
              (first | rw [c89b0] | (simp only [i64_w, i32_w]; rw [c89b0]) | skip)
              have H' := Aside0.mk H
              clear H
              have hnb90 := NB314_281.1
              have hnc90 := NB281_314.1
              have hnb91 := NB314_292.1
              have hnc91 := NB292_314.1
              have hcz92_0 : w82.cell? ⟨gb314, 0, none⟩ = some (.int .i64 0) := (bc_ BK314.1 0).trans rfl
              have hcz92_1 : w82.cell? ⟨gb314, 1, none⟩ = some (.slice none 0 0) := (bc_ BK314.1 1).trans rfl
              have hcz92_2 : w82.cell? ⟨gb314, 2, none⟩ = some (.string (⟨#[]⟩ : ByteArray)) := (bc_ BK314.1 2).trans rfl
              have hfz92_0 := bF_ BK314.1 0
              have hfz92_1 := bF_ BK314.1 1
              have hfz92_2 := bF_ BK314.1 2
              have hnb93 := NB281_292.1
              have hnc93 := NB292_281.1
              have hcz94_0 : w82.cell? ⟨gb281, 0, none⟩ = some (.int .i64 t274) := (bc_ BK281.1 0).trans rfl
              have hcz94_1 : w82.cell? ⟨gb281, 1, none⟩ = some (.slice Ao13 t275.length co13) := (bc_ BK281.1 1).trans rfl
              have hcz94_2 : w82.cell? ⟨gb281, 2, none⟩ = some (.string t278) := (bc_ BK281.1 2).trans rfl
              have hfz94_0 := bF_ BK281.1 0
              have hfz94_1 := bF_ BK281.1 1
              have hfz94_2 := bF_ BK281.1 2
              go_wp2_with (first | ((with_reducible refine gate_callee (f := 15) rfl ?_); refine goesL_ (some 94) rfl rfl Tryz.func15 (by kernel_rfl) rfl #[.agg #[.int .i64 t307, .slice Ao86 t308.length co86, .string t311], .agg #[.int .i64 t274, .slice Ao13 t275.length co13, .string t278]] rfl (by (try simp only [List.map_toArray, List.map_cons, List.map_nil]); first | done | rfl | (simp only [List.length_drop, List.length_take]; rfl)) ?_; (with_reducible refine (laws_eqResp.calls kj40 t307 _ _ t308 t311 t274 _ _ t275 t278 true _ ?side1 ?side2 ?side3 ?side4 A87.1).mono ?_); (case side1 => refine (Kd.R_reads' (e := 88) (base := w.heap.size) (ok := fun k_ => ((True ∧ some k_ ≠ (.slice Ao13 t275.length co13 : Value).ownBlock) ∧ some k_ ≠ (.slice Ao20 t286.length co20 : Value).ownBlock)) (n := t308.length) (c := co86) ?_).2.2; exact (by (with_reducible repeat (first | apply rA_ | apply rN_ | apply rD_)); exact (Kd.R_mono (rF_ (p := ⟨gb314, 2, none⟩) (rF_ (p := ⟨gb314, 1, none⟩) (rF_ (p := ⟨gb314, 0, none⟩) (Kd.R_types HO310.1 BK314.1 (by decide)) (fun _ hk => hk.2) (.int .i64 t307)) (fun _ hk => hk.2) (.slice Ao86 t308.length co86)) (fun _ hk => hk.2) (.string t311)) (fun _ h_ => h_.1)))); (case side2 => exact (Kd.R_reads' HO310.1).2.1); (case side3 => refine (Kd.R_reads' (e := 88) (base := w.heap.size) (ok := fun k_ => (some k_ ≠ (.slice Ao20 t286.length co20 : Value).ownBlock ∧ some k_ ≠ (.slice Ao86 t308.length co86 : Value).ownBlock)) (n := t275.length) (c := co13) ?_).2.2; exact (by (with_reducible repeat (first | apply rA_ | apply rN_ | apply rD_)); exact (Kd.R_mono (rF_ (p := ⟨gb314, 2, none⟩) (rF_ (p := ⟨gb314, 1, none⟩) (rF_ (p := ⟨gb314, 0, none⟩) (Kd.R_types HO_282001.1 BK314.1 (by decide)) (fun _ hk => hk.2) (.int .i64 t307)) (fun _ hk => hk.2) (.slice Ao86 t308.length co86)) (fun _ hk => hk.2) (.string t311)) (fun _ h_ => h_.1)))); (case side4 => exact (Kd.R_reads' HO_282001.1).2.1); rintro e w95 ⟨rfl, hb⟩; refine ⟨_, rfl, ?_⟩; have n0_ := Aside0.mk (Kd.R_below (by (with_reducible repeat (first | apply rA_ | apply rN_ | apply rD_)); exact (Kd.R_mono (rF_ (p := ⟨gb314, 2, none⟩) (rF_ (p := ⟨gb314, 1, none⟩) (rF_ (p := ⟨gb314, 0, none⟩) (Kd.R_types HO_282001.1 BK314.1 (by decide)) (fun _ hk => hk.2) (.int .i64 t307)) (fun _ hk => hk.2) (.slice Ao86 t308.length co86)) (fun _ hk => hk.2) (.string t311)) (fun _ h_ => h_.1))) hb); have n1_ := Aside0.mk (Kd.R_below (by (with_reducible repeat (first | apply rA_ | apply rN_ | apply rD_)); exact (Kd.R_mono (rF_ (p := ⟨gb314, 2, none⟩) (rF_ (p := ⟨gb314, 1, none⟩) (rF_ (p := ⟨gb314, 0, none⟩) (Kd.R_types HO_293001.1 BK314.1 (by decide)) (fun _ hk => hk.2) (.int .i64 t307)) (fun _ hk => hk.2) (.slice Ao86 t308.length co86)) (fun _ hk => hk.2) (.string t311)) (fun _ h_ => h_.1))) hb); have n2_ := Aside0.mk (Kd.R_below (by (with_reducible repeat (first | apply rA_ | apply rN_ | apply rD_)); exact (Kd.R_mono (rF_ (p := ⟨gb314, 2, none⟩) (rF_ (p := ⟨gb314, 1, none⟩) (rF_ (p := ⟨gb314, 0, none⟩) (Kd.R_types HO306.1 BK314.1 (by decide)) (fun _ hk => hk.2) (.int .i64 t307)) (fun _ hk => hk.2) (.slice Ao86 t308.length co86)) (fun _ hk => hk.2) (.string t311)) (fun _ h_ => h_.1))) hb); have n3_ := Aside0.mk (Kd.R_below (by (with_reducible repeat (first | apply rA_ | apply rN_ | apply rD_)); exact (Kd.R_mono (rF_ (p := ⟨gb314, 2, none⟩) (rF_ (p := ⟨gb314, 1, none⟩) (rF_ (p := ⟨gb314, 0, none⟩) (Kd.R_types HO310.1 BK314.1 (by decide)) (fun _ hk => hk.2) (.int .i64 t307)) (fun _ hk => hk.2) (.slice Ao86 t308.length co86)) (fun _ hk => hk.2) (.string t311)) (fun _ h_ => h_.1))) hb); have n4_ := Aside0.mk (bB_ (g := gb281) (o := .cells #[.int .i64 t274, .slice Ao13 t275.length co13, .string t278] 25 (0, 0)) (by (with_reducible repeat (first | refine bN_ ?_ _ | refine bD_ ?_ | refine bA_ ?_ _)); refine blk_far ?_ NB281_314.1 _; (with_reducible repeat (first | refine bN_ ?_ _ | refine bD_ ?_ | refine bA_ ?_ _)); refine blk_far ?_ NB281_314.1 _; (with_reducible repeat (first | refine bN_ ?_ _ | refine bD_ ?_ | refine bA_ ?_ _)); refine blk_far ?_ NB281_314.1 _; (with_reducible repeat (first | refine bN_ ?_ _ | refine bD_ ?_ | refine bA_ ?_ _)); exact BK281.1) hb); have n5_ := Aside0.mk (bB_ (g := gb292) (o := .cells #[.int .i64 t285, .slice Ao20 t286.length co20, .string t289] 25 (0, 0)) (by (with_reducible repeat (first | refine bN_ ?_ _ | refine bD_ ?_ | refine bA_ ?_ _)); refine blk_far ?_ NB292_314.1 _; (with_reducible repeat (first | refine bN_ ?_ _ | refine bD_ ?_ | refine bA_ ?_ _)); refine blk_far ?_ NB292_314.1 _; (with_reducible repeat (first | refine bN_ ?_ _ | refine bD_ ?_ | refine bA_ ?_ _)); refine blk_far ?_ NB292_314.1 _; (with_reducible repeat (first | refine bN_ ?_ _ | refine bD_ ?_ | refine bA_ ?_ _)); exact BK292.1) hb); have n6_ := Aside0.mk (bB_ (g := gb314) (o := .cells #[.int .i64 t307, .slice Ao86 t308.length co86, .string t311] 25 (0, 0)) (by (with_reducible repeat (first | refine bN_ ?_ _ | refine bD_ ?_ | refine bA_ ?_ _)); refine blk_put (cs := #[.int .i64 t307, .slice Ao86 t308.length co86, .string (⟨#[]⟩ : ByteArray)]) ?_ 2 _ rfl; (with_reducible repeat (first | refine bN_ ?_ _ | refine bD_ ?_ | refine bA_ ?_ _)); refine blk_put (cs := #[.int .i64 t307, .slice none 0 0, .string (⟨#[]⟩ : ByteArray)]) ?_ 1 _ rfl; (with_reducible repeat (first | refine bN_ ?_ _ | refine bD_ ?_ | refine bA_ ?_ _)); refine blk_put (cs := #[.int .i64 0, .slice none 0 0, .string (⟨#[]⟩ : ByteArray)]) ?_ 0 _ rfl; (with_reducible repeat (first | refine bN_ ?_ _ | refine bD_ ?_ | refine bA_ ?_ _)); exact BK314.1) hb); have n7_ := Aside0.mk (below_step (by repeat (first | (with_reducible first | exact HB.1 | apply aB_ | apply pN_ | apply dB_ | refine sB_ ?_ GE281.1 | refine sB_ ?_ GE292.1 | refine sB_ ?_ GE314.1) | exact HB.1)) hb); clear HO_282001 HO_293001; clear HO306 HO310; clear BK281 BK292; clear BK314 HB; have HO_282001 := n0_; have HO_293001 := n1_; have HO306 := n2_; have HO310 := n3_; have BK281 := n4_; have BK292 := n5_; have BK314 := n6_; have HB := n7_; clear n0_ n1_ n2_ n3_ n4_ n5_ n6_ n7_; (try clear hb); (try clear hb2); (try clear hk); (try clear hi)))
              go_meet
              case rel => exact ⟨_, ((t313 != t280)), (by first | rfl | (simp; done) | (simp [*]; done) | (simp [empty_ne, *]; done)), H', ⟨by have := HJ6.1; have := HJ40.1; first | omega | exact Nat.le_refl _⟩, ⟨by (with_reducible repeat (first | apply rA_ | apply rN_ | apply rD_)); first | exact HO_282001.1 | exact Kd.R_mono HO_282001.1 (fun k_ h_ e_ => h_ (e_.trans (ob_len _ _ _ _ _)))⟩, ⟨by (with_reducible repeat (first | apply rA_ | apply rN_ | apply rD_)); first | exact HO_293001.1 | exact Kd.R_mono HO_293001.1 (fun k_ h_ e_ => h_ (e_.trans (ob_len _ _ _ _ _)))⟩, ⟨by (with_reducible repeat (first | apply rA_ | apply rN_ | apply rD_)); exact Kd.R_mono HO310.1 (fun _ hk => ⟨hk.1.2, hk.2⟩)⟩, ⟨by (with_reducible repeat (first | refine bN_ ?_ _ | refine bD_ ?_ | refine bA_ ?_ _)); exact BK281.1⟩, ⟨by (with_reducible repeat (first | refine bN_ ?_ _ | refine bD_ ?_ | refine bA_ ?_ _)); exact BK292.1⟩, ⟨by (with_reducible repeat (first | refine bN_ ?_ _ | refine bD_ ?_ | refine bA_ ?_ _)); exact BK314.1⟩, ⟨by repeat (first | (with_reducible first | exact HB.1 | apply aB_ | apply pN_ | apply dB_ | refine sB_ ?_ GE281.1 | refine sB_ ?_ GE292.1 | refine sB_ ?_ GE314.1) | exact HB.1)⟩⟩
             ·rw [if_neg c89] at H
              have c89b0 : (t312 == t279) = false := beq_eq_false_iff_ne.mpr c89
              have c89b1 : (t312 != t279) = true := bne_iff_ne.mpr c89
              (first | rw [c89b0] | (simp only [i64_w, i32_w]; rw [c89b0]) | skip)
              exact absurd H (laws_FnExactGetResp.j2_true _ _ _ _ _)
            ·replace c88 := Bool.eq_false_iff.mpr c88
             subst c88
             have H1 : (laws_FnExactGetResp.j2 kj40 t301 true t285 t302 t289) = some true := by rw [if_neg (show ¬ (false = true) by decide)] at H; exact H
             clear H
             have H := H1
             clear H1
             exact absurd H (laws_FnExactGetResp.j2_true _ _ _ _ _)
           case rest =>
            clear HC73
            try clear c1
            try clear c2
            try clear c2b0
            try clear c2b1
            try clear p2
            try clear c3
            try clear c4
            try clear c5
            try clear c6
            try clear c7
            try clear c8
            try clear c9
            try clear c10
            try clear c12
            try clear c13
            try clear c14
            try clear c15
            try clear c16
            try clear c17
            try clear c18
            try clear c19
            try clear c22
            try clear c23
            try clear c23b0
            try clear c23b1
            try clear c24
            try clear c28
            try clear c32
            try clear c36
            try clear c39
            try clear c45
            try clear c45b0
            try clear c47
            try clear c48
            try clear c48b0
            try clear c48b1
            try clear c49
            try clear c53
            try clear c57
            try clear c61
            try clear c64
            try clear c64b0
            try clear c65
            try clear c70
            try clear c70b0
            try clear c70b1
            try clear c74
            try clear c83
            try clear c84
            try clear c88
            try clear c89
            try clear c89b0
            try clear c89b1
            try clear c90
            try clear c91
            try clear c93
            try clear c96
            try clear c97
            try clear c99
            try clear c102
            try clear c103
            try clear c105
            try clear hcz100_0
            try clear hcz100_1
            try clear hcz100_2
            try clear hcz104_0
            try clear hcz104_1
            try clear hcz104_2
            try clear hcz106_0
            try clear hcz106_1
            try clear hcz106_2
            try clear hcz12_0
            try clear hcz12_1
            try clear hcz12_2
            try clear hcz19_0
            try clear hcz19_1
            try clear hcz19_2
            try clear hcz25_0
            try clear hcz25_1
            try clear hcz25_2
            try clear hcz26_0
            try clear hcz26_1
            try clear hcz26_2
            try clear hcz29_0
            try clear hcz29_1
            try clear hcz29_2
            try clear hcz30_0
            try clear hcz30_1
            try clear hcz30_2
            try clear hcz33_0
            try clear hcz33_1
            try clear hcz33_2
            try clear hcz34_0
            try clear hcz34_1
            try clear hcz34_2
            try clear hcz50_0
            try clear hcz50_1
            try clear hcz50_2
            try clear hcz51_0
            try clear hcz51_1
            try clear hcz51_2
            try clear hcz54_0
            try clear hcz54_1
            try clear hcz54_2
            try clear hcz55_0
            try clear hcz55_1
            try clear hcz55_2
            try clear hcz58_0
            try clear hcz58_1
            try clear hcz58_2
            try clear hcz59_0
            try clear hcz59_1
            try clear hcz59_2
            try clear hcz66_0
            try clear hcz66_1
            try clear hcz66_2
            try clear hcz68_0
            try clear hcz68_1
            try clear hcz68_2
            try clear hcz75_0
            try clear hcz75_1
            try clear hcz75_2
            try clear hcz77_0
            try clear hcz77_1
            try clear hcz77_2
            try clear hcz85_0
            try clear hcz85_1
            try clear hcz85_2
            try clear hcz92_0
            try clear hcz92_1
            try clear hcz92_2
            try clear hcz94_0
            try clear hcz94_1
            try clear hcz94_2
            try clear hcz98_0
            try clear hcz98_1
            try clear hcz98_2
            try clear hfz100_0
            try clear hfz100_1
            try clear hfz100_2
            try clear hfz104_0
            try clear hfz104_1
            try clear hfz104_2
            try clear hfz106_0
            try clear hfz106_1
            try clear hfz106_2
            try clear hfz12_0
            try clear hfz12_1
            try clear hfz12_2
            try clear hfz19_0
            try clear hfz19_1
            try clear hfz19_2
            try clear hfz25_0
            try clear hfz25_1
            try clear hfz25_2
            try clear hfz26_0
            try clear hfz26_1
            try clear hfz26_2
            try clear hfz29_0
            try clear hfz29_1
            try clear hfz29_2
            try clear hfz30_0
            try clear hfz30_1
            try clear hfz30_2
            try clear hfz33_0
            try clear hfz33_1
            try clear hfz33_2
            try clear hfz34_0
            try clear hfz34_1
            try clear hfz34_2
            try clear hfz50_0
            try clear hfz50_1
            try clear hfz50_2
            try clear hfz51_0
            try clear hfz51_1
            try clear hfz51_2
            try clear hfz54_0
            try clear hfz54_1
            try clear hfz54_2
            try clear hfz55_0
            try clear hfz55_1
            try clear hfz55_2
            try clear hfz58_0
            try clear hfz58_1
            try clear hfz58_2
            try clear hfz59_0
            try clear hfz59_1
            try clear hfz59_2
            try clear hfz66_0
            try clear hfz66_1
            try clear hfz66_2
            try clear hfz68_0
            try clear hfz68_1
            try clear hfz68_2
            try clear hfz75_0
            try clear hfz75_1
            try clear hfz75_2
            try clear hfz77_0
            try clear hfz77_1
            try clear hfz77_2
            try clear hfz85_0
            try clear hfz85_1
            try clear hfz85_2
            try clear hfz92_0
            try clear hfz92_1
            try clear hfz92_2
            try clear hfz94_0
            try clear hfz94_1
            try clear hfz94_2
            try clear hfz98_0
            try clear hfz98_1
            try clear hfz98_2
            try clear p2
            obtain ⟨kq, x105_72, rfl, HA, HJ72, HO_282001, HO_293001, HO_315001, BK281, BK292, BK314, HB⟩ := hcut
            have hl293001_72 := (Kd.R_reads' HO_293001.1).1
            rw [hl293001_72] at HO_293001
            (try simp only [hl293001_72])
            (try simp only [hl293001_72] at BK281)
            (try simp only [hl293001_72] at BK292)
            (try simp only [hl293001_72] at BK314)
            (try simp only [hl293001_72] at HO_282001)
            (try simp only [hl293001_72] at HO_315001)
            cases kq with
            | zero => exact absurd HA.1 (by simp [laws_FnExactGetResp.j2])
            | succ kj72 =>
             have H := HA.1
             clear HA
             simp only [laws_FnExactGetResp.j2] at H
             by_cases c108 : x105_72 = true
             ·subst c108
              have H1 : (some false) = some true := by rw [if_pos rfl] at H; exact H
              clear H
              have H := H1
              clear H1
              have hr_ := Option.some.inj H
              go_wp2
              go_ret
              exact ⟨by first | rfl | exact absurd hr_ (by decide) | (rw [hr_]; done) | (simp only [hr_]; done) | (simp [errW_none, errW_some] <;> rfl) | (simp [*, errW_none, errW_some] <;> rfl), by repeat (first | (with_reducible first | exact HB.1 | apply aB_ | apply pN_ | apply dB_ | refine sB_ ?_ GE281.1 | refine sB_ ?_ GE292.1 | refine sB_ ?_ GE314.1) | exact HB.1)⟩
             ·replace c108 := Bool.eq_false_iff.mpr c108
              subst c108
              have H1 : ((laws_heldResp.f kj72 t285 t302 t289 1).bind fun t316 => (if t316 < 0 then (some false) else (if t316 = t301 then (some true) else (some false)))) = some true := by rw [if_neg (show ¬ (false = true) by decide)] at H; exact H
              clear H
              have H := H1
              clear H1
              replace H := Option.bind_eq_some_iff.mp H
              obtain ⟨t316, A1090, H⟩ := H
              replace H : (if t316 < 0 then (some false) else (if t316 = t301 then (some true) else (some false))) = some true := H
              have A109 := Aside0.mk A1090
              clear A1090
              by_cases c110 : t316 < 0
              ·rw [if_pos c110] at H
               have c110b0 : decide (t316 < 0) = true := decide_eq_true c110
               clear c110
               have hr_ := Option.some.inj H
               have hnb111 := NB292_281.1
               have hnc111 := NB281_292.1
               have hnb112 := NB292_314.1
               have hnc112 := NB314_292.1
               have hcz113_0 : wc.cell? ⟨gb292, 0, none⟩ = some (.int .i64 t285) := (bc_ BK292.1 0).trans rfl
               have hcz113_1 : wc.cell? ⟨gb292, 1, none⟩ = some (.slice Ao20 t302.length co20) := (bc_ BK292.1 1).trans rfl
               have hcz113_2 : wc.cell? ⟨gb292, 2, none⟩ = some (.string t289) := (bc_ BK292.1 2).trans rfl
               have hfz113_0 := bF_ BK292.1 0
               have hfz113_1 := bF_ BK292.1 1
               have hfz113_2 := bF_ BK292.1 2
               go_wp2_with (first | ((with_reducible refine gate_callee (f := 19) rfl ?_); refine goesL_ (some 108) rfl rfl Tryz.func19 (by kernel_rfl) rfl #[.agg #[.int .i64 t285, .slice Ao20 t302.length co20, .string t289], .int .i64 1] rfl (by (try simp only [List.map_toArray, List.map_cons, List.map_nil]); first | done | rfl | (simp only [List.length_drop, List.length_take]; rfl)) ?_; (with_reducible refine (laws_heldResp.calls kj72 t285 _ _ t302 t289 1 t316 _ ?side1 ?side2 A109.1).mono ?_); (case side1 => repeat (first | exact (Kd.R_reads' HO_293001.1).2.2 | (with_reducible refine Kd.C_alloc ?_ _) | (with_reducible refine Kd.C_drewN ?_ _) | (with_reducible refine Kd.C_drew ?_))); (case side2 => exact (Kd.R_reads' HO_293001.1).2.1); rintro e w114 ⟨rfl, hb⟩; refine ⟨_, rfl, ?_⟩; have n0_ := Aside0.mk (Kd.R_below (by (with_reducible repeat (first | apply rA_ | apply rN_ | apply rD_)); exact HO_282001.1) hb); have n1_ := Aside0.mk (Kd.R_below (by (with_reducible repeat (first | apply rA_ | apply rN_ | apply rD_)); exact HO_293001.1) hb); have n2_ := Aside0.mk (Kd.R_below (by (with_reducible repeat (first | apply rA_ | apply rN_ | apply rD_)); exact HO_315001.1) hb); have n3_ := Aside0.mk (bB_ (g := gb281) (o := .cells #[.int .i64 t274, .slice Ao13 t275.length co13, .string t278] 25 (0, 0)) (by (with_reducible repeat (first | refine bN_ ?_ _ | refine bD_ ?_ | refine bA_ ?_ _)); exact BK281.1) hb); have n4_ := Aside0.mk (bB_ (g := gb292) (o := .cells #[.int .i64 t285, .slice Ao20 t302.length co20, .string t289] 25 (0, 0)) (by (with_reducible repeat (first | refine bN_ ?_ _ | refine bD_ ?_ | refine bA_ ?_ _)); exact BK292.1) hb); have n5_ := Aside0.mk (bB_ (g := gb314) (o := .cells #[.int .i64 t307, .slice Ao86 t308.length co86, .string t311] 25 (0, 0)) (by (with_reducible repeat (first | refine bN_ ?_ _ | refine bD_ ?_ | refine bA_ ?_ _)); exact BK314.1) hb); have n6_ := Aside0.mk (below_step (by repeat (first | (with_reducible first | exact HB.1 | apply aB_ | apply pN_ | apply dB_ | refine sB_ ?_ GE281.1 | refine sB_ ?_ GE292.1 | refine sB_ ?_ GE314.1) | exact HB.1)) hb); clear HO_282001 HO_293001; clear HO_315001 BK281; clear BK292 BK314 HB; have HO_282001 := n0_; have HO_293001 := n1_; have HO_315001 := n2_; have BK281 := n3_; have BK292 := n4_; have BK314 := n5_; have HB := n6_; clear n0_ n1_ n2_ n3_ n4_ n5_ n6_; (try clear hb); (try clear hb2); (try clear hk); (try clear hi)))
               go_ret
               exact ⟨by first | rfl | exact absurd hr_ (by decide) | (rw [hr_]; done) | (simp only [hr_]; done) | (simp [errW_none, errW_some] <;> rfl) | (simp [*, errW_none, errW_some] <;> rfl), by repeat (first | (with_reducible first | exact HB.1 | apply aB_ | apply pN_ | apply dB_ | refine sB_ ?_ GE281.1 | refine sB_ ?_ GE292.1 | refine sB_ ?_ GE314.1) | exact HB.1)⟩
              ·rw [if_neg c110] at H
               have c110b0 : decide (t316 < 0) = false := decide_eq_false c110
               clear c110
               by_cases c115 : t316 = t301
               ·rw [if_pos c115] at H
                have c115b0 : (t316 == t301) = true := beq_iff_eq.mpr c115
                have c115b1 : (t316 != t301) = false := bne_eq_false_iff_eq.mpr c115
                clear c115
                have hr_ := Option.some.inj H
                have hnb116 := NB292_281.1
                have hnc116 := NB281_292.1
                have hnb117 := NB292_314.1
                have hnc117 := NB314_292.1
                have hcz118_0 : wc.cell? ⟨gb292, 0, none⟩ = some (.int .i64 t285) := (bc_ BK292.1 0).trans rfl
                have hcz118_1 : wc.cell? ⟨gb292, 1, none⟩ = some (.slice Ao20 t302.length co20) := (bc_ BK292.1 1).trans rfl
                have hcz118_2 : wc.cell? ⟨gb292, 2, none⟩ = some (.string t289) := (bc_ BK292.1 2).trans rfl
                have hfz118_0 := bF_ BK292.1 0
                have hfz118_1 := bF_ BK292.1 1
                have hfz118_2 := bF_ BK292.1 2
                go_wp2_with (first | ((with_reducible refine gate_callee (f := 19) rfl ?_); refine goesL_ (some 108) rfl rfl Tryz.func19 (by kernel_rfl) rfl #[.agg #[.int .i64 t285, .slice Ao20 t302.length co20, .string t289], .int .i64 1] rfl (by (try simp only [List.map_toArray, List.map_cons, List.map_nil]); first | done | rfl | (simp only [List.length_drop, List.length_take]; rfl)) ?_; (with_reducible refine (laws_heldResp.calls kj72 t285 _ _ t302 t289 1 t316 _ ?side1 ?side2 A109.1).mono ?_); (case side1 => repeat (first | exact (Kd.R_reads' HO_293001.1).2.2 | (with_reducible refine Kd.C_alloc ?_ _) | (with_reducible refine Kd.C_drewN ?_ _) | (with_reducible refine Kd.C_drew ?_))); (case side2 => exact (Kd.R_reads' HO_293001.1).2.1); rintro e w119 ⟨rfl, hb⟩; refine ⟨_, rfl, ?_⟩; have n0_ := Aside0.mk (Kd.R_below (by (with_reducible repeat (first | apply rA_ | apply rN_ | apply rD_)); exact HO_282001.1) hb); have n1_ := Aside0.mk (Kd.R_below (by (with_reducible repeat (first | apply rA_ | apply rN_ | apply rD_)); exact HO_293001.1) hb); have n2_ := Aside0.mk (Kd.R_below (by (with_reducible repeat (first | apply rA_ | apply rN_ | apply rD_)); exact HO_315001.1) hb); have n3_ := Aside0.mk (bB_ (g := gb281) (o := .cells #[.int .i64 t274, .slice Ao13 t275.length co13, .string t278] 25 (0, 0)) (by (with_reducible repeat (first | refine bN_ ?_ _ | refine bD_ ?_ | refine bA_ ?_ _)); exact BK281.1) hb); have n4_ := Aside0.mk (bB_ (g := gb292) (o := .cells #[.int .i64 t285, .slice Ao20 t302.length co20, .string t289] 25 (0, 0)) (by (with_reducible repeat (first | refine bN_ ?_ _ | refine bD_ ?_ | refine bA_ ?_ _)); exact BK292.1) hb); have n5_ := Aside0.mk (bB_ (g := gb314) (o := .cells #[.int .i64 t307, .slice Ao86 t308.length co86, .string t311] 25 (0, 0)) (by (with_reducible repeat (first | refine bN_ ?_ _ | refine bD_ ?_ | refine bA_ ?_ _)); exact BK314.1) hb); have n6_ := Aside0.mk (below_step (by repeat (first | (with_reducible first | exact HB.1 | apply aB_ | apply pN_ | apply dB_ | refine sB_ ?_ GE281.1 | refine sB_ ?_ GE292.1 | refine sB_ ?_ GE314.1) | exact HB.1)) hb); clear HO_282001 HO_293001; clear HO_315001 BK281; clear BK292 BK314 HB; have HO_282001 := n0_; have HO_293001 := n1_; have HO_315001 := n2_; have BK281 := n3_; have BK292 := n4_; have BK314 := n5_; have HB := n6_; clear n0_ n1_ n2_ n3_ n4_ n5_ n6_; (try clear hb); (try clear hb2); (try clear hk); (try clear hi)))
                go_ret
                exact ⟨by first | rfl | exact absurd hr_ (by decide) | (rw [hr_]; done) | (simp only [hr_]; done) | (simp [errW_none, errW_some] <;> rfl) | (simp [*, errW_none, errW_some] <;> rfl), by repeat (first | (with_reducible first | exact HB.1 | apply aB_ | apply pN_ | apply dB_ | refine sB_ ?_ GE281.1 | refine sB_ ?_ GE292.1 | refine sB_ ?_ GE314.1) | exact HB.1)⟩
               ·rw [if_neg c115] at H
                have c115b0 : (t316 == t301) = false := beq_eq_false_iff_ne.mpr c115
                have c115b1 : (t316 != t301) = true := bne_iff_ne.mpr c115
                have hr_ := Option.some.inj H
                have hnb120 := NB292_281.1
                have hnc120 := NB281_292.1
                have hnb121 := NB292_314.1
                have hnc121 := NB314_292.1
                have hcz122_0 : wc.cell? ⟨gb292, 0, none⟩ = some (.int .i64 t285) := (bc_ BK292.1 0).trans rfl
                have hcz122_1 : wc.cell? ⟨gb292, 1, none⟩ = some (.slice Ao20 t302.length co20) := (bc_ BK292.1 1).trans rfl
                have hcz122_2 : wc.cell? ⟨gb292, 2, none⟩ = some (.string t289) := (bc_ BK292.1 2).trans rfl
                have hfz122_0 := bF_ BK292.1 0
                have hfz122_1 := bF_ BK292.1 1
                have hfz122_2 := bF_ BK292.1 2
                go_wp2_with (first | ((with_reducible refine gate_callee (f := 19) rfl ?_); refine goesL_ (some 108) rfl rfl Tryz.func19 (by kernel_rfl) rfl #[.agg #[.int .i64 t285, .slice Ao20 t302.length co20, .string t289], .int .i64 1] rfl (by (try simp only [List.map_toArray, List.map_cons, List.map_nil]); first | done | rfl | (simp only [List.length_drop, List.length_take]; rfl)) ?_; (with_reducible refine (laws_heldResp.calls kj72 t285 _ _ t302 t289 1 t316 _ ?side1 ?side2 A109.1).mono ?_); (case side1 => repeat (first | exact (Kd.R_reads' HO_293001.1).2.2 | (with_reducible refine Kd.C_alloc ?_ _) | (with_reducible refine Kd.C_drewN ?_ _) | (with_reducible refine Kd.C_drew ?_))); (case side2 => exact (Kd.R_reads' HO_293001.1).2.1); rintro e w123 ⟨rfl, hb⟩; refine ⟨_, rfl, ?_⟩; have n0_ := Aside0.mk (Kd.R_below (by (with_reducible repeat (first | apply rA_ | apply rN_ | apply rD_)); exact HO_282001.1) hb); have n1_ := Aside0.mk (Kd.R_below (by (with_reducible repeat (first | apply rA_ | apply rN_ | apply rD_)); exact HO_293001.1) hb); have n2_ := Aside0.mk (Kd.R_below (by (with_reducible repeat (first | apply rA_ | apply rN_ | apply rD_)); exact HO_315001.1) hb); have n3_ := Aside0.mk (bB_ (g := gb281) (o := .cells #[.int .i64 t274, .slice Ao13 t275.length co13, .string t278] 25 (0, 0)) (by (with_reducible repeat (first | refine bN_ ?_ _ | refine bD_ ?_ | refine bA_ ?_ _)); exact BK281.1) hb); have n4_ := Aside0.mk (bB_ (g := gb292) (o := .cells #[.int .i64 t285, .slice Ao20 t302.length co20, .string t289] 25 (0, 0)) (by (with_reducible repeat (first | refine bN_ ?_ _ | refine bD_ ?_ | refine bA_ ?_ _)); exact BK292.1) hb); have n5_ := Aside0.mk (bB_ (g := gb314) (o := .cells #[.int .i64 t307, .slice Ao86 t308.length co86, .string t311] 25 (0, 0)) (by (with_reducible repeat (first | refine bN_ ?_ _ | refine bD_ ?_ | refine bA_ ?_ _)); exact BK314.1) hb); have n6_ := Aside0.mk (below_step (by repeat (first | (with_reducible first | exact HB.1 | apply aB_ | apply pN_ | apply dB_ | refine sB_ ?_ GE281.1 | refine sB_ ?_ GE292.1 | refine sB_ ?_ GE314.1) | exact HB.1)) hb); clear HO_282001 HO_293001; clear HO_315001 BK281; clear BK292 BK314 HB; have HO_282001 := n0_; have HO_293001 := n1_; have HO_315001 := n2_; have BK281 := n3_; have BK292 := n4_; have BK314 := n5_; have HB := n6_; clear n0_ n1_ n2_ n3_ n4_ n5_ n6_; (try clear hb); (try clear hb2); (try clear hk); (try clear hi)))
                go_ret
                exact ⟨by first | rfl | exact absurd hr_ (by decide) | (rw [hr_]; done) | (simp only [hr_]; done) | (simp [errW_none, errW_some] <;> rfl) | (simp [*, errW_none, errW_some] <;> rfl), by repeat (first | (with_reducible first | exact HB.1 | apply aB_ | apply pN_ | apply dB_ | refine sB_ ?_ GE281.1 | refine sB_ ?_ GE292.1 | refine sB_ ?_ GE314.1) | exact HB.1)⟩
          ·rw [if_neg c70] at H
           have c70b0 : (t303 == t301) = false := beq_eq_false_iff_ne.mpr c70
           have c70b1 : (t303 != t301) = true := bne_iff_ne.mpr c70
           have hr_ := Option.some.inj H
           have hnb124 := NB292_281.1
           have hnc124 := NB281_292.1
           have hcz125_0 : wc.cell? ⟨gb292, 0, none⟩ = some (.int .i64 t285) := (bc_ BK292.1 0).trans rfl
           have hcz125_1 : wc.cell? ⟨gb292, 1, none⟩ = some (.slice Ao20 t286.length co20) := (bc_ BK292.1 1).trans rfl
           have hcz125_2 : wc.cell? ⟨gb292, 2, none⟩ = some (.string t289) := (bc_ BK292.1 2).trans rfl
           have hfz125_0 := bF_ BK292.1 0
           have hfz125_1 := bF_ BK292.1 1
           have hfz125_2 := bF_ BK292.1 2
           go_wp2_with (first | ((with_reducible refine gate_callee (f := 18) rfl ?_); refine goesL_ (some 76) rfl rfl Tryz.func18 (by kernel_rfl) rfl #[.agg #[.int .i64 t285, .slice Ao20 t286.length co20, .string t289], .int .i64 1] rfl (by (try simp only [List.map_toArray, List.map_cons, List.map_nil]); first | done | rfl | (simp only [List.length_drop, List.length_take]; rfl)) ?_; (with_reducible refine (laws_markResp.calls kj40 t285 (fun k_ => some k_ = (.slice Ao20 t286.length co20 : Value).ownBlock) (.slice Ao20 t286.length co20) t286 t289 1 t301 t302 w _ ?side1 ?side2 A62.1).mono ?_); (case side1 => repeat (first | (with_reducible first | exact HB.1 | apply aB_ | apply pN_ | apply dB_ | refine sB_ ?_ GE281.1 | refine sB_ ?_ GE292.1) | exact HB.1)); (case side2 => exact Kd.R_tight rfl HO_293001.1); rintro e w126 ⟨rfl, hy0, hb, hkp⟩; refine ⟨_, rfl, ?_⟩; have n0_ := Aside0.mk (Kd.R_mono (ok' := fun k_ => some k_ ≠ (.slice Ao20 t286.length co20 : Value).ownBlock) (Kd.R_keptB (HO_282001.1) hkp (fun k_ hk_ hs_ => by first | exact (hk_) hs_ | exact hk_.1 hs_ | exact hk_.2 hs_ | exact hk_ hs_ | exact hk_.1.1 hs_ | exact hk_.1.2 hs_ | exact hk_.1.1.2 hs_)) (fun k_ hk_ => by first | exact hk_.1 | exact hk_.1.1 | exact hk_.1 | exact hk_.1.2 | exact hk_.2 | exact hk_)); have n1_ := Aside0.mk (Kd.R_reok rfl hy0 (fun k_ e_ => HO_293001.1.1 k_ e_)); have n2_ := Aside0.mk (blk_kept (by (with_reducible repeat (first | refine bN_ ?_ _ | refine bD_ ?_ | refine bA_ ?_ _)); exact BK281.1) hkp (fun hs_ => (fun e_ => (Kd.R_ne HO_293001.1 BK281.1 (by decide)) e_) hs_)); have n3_ := Aside0.mk (blk_kept (by (with_reducible repeat (first | refine bN_ ?_ _ | refine bD_ ?_ | refine bA_ ?_ _)); exact BK292.1) hkp (fun hs_ => (fun e_ => (Kd.R_ne HO_293001.1 BK292.1 (by decide)) e_) hs_)); have n4_ := Aside0.mk (hb); clear HO_282001 HO_293001; clear BK281 BK292 HB; have HO_282001 := n0_; have HO_293001 := n1_; have BK281 := n2_; have BK292 := n3_; have HB := n4_; clear n0_ n1_ n2_ n3_ n4_; (try clear hb); (try clear hkp); (try clear hy0); have hcz127_0 : w126.cell? ⟨gb292, 0, none⟩ = some (.int .i64 t285) := (bc_ BK292.1 0).trans rfl; have hcz127_1 : w126.cell? ⟨gb292, 1, none⟩ = some (.slice Ao20 t286.length co20) := (bc_ BK292.1 1).trans rfl; have hcz127_2 : w126.cell? ⟨gb292, 2, none⟩ = some (.string t289) := (bc_ BK292.1 2).trans rfl; have hfz127_0 := bF_ BK292.1 0; have hfz127_1 := bF_ BK292.1 1; have hfz127_2 := bF_ BK292.1 2) | ((with_reducible refine gate_callee (f := 19) rfl ?_); refine goesL_ (some 79) rfl rfl Tryz.func19 (by kernel_rfl) rfl #[.agg #[.int .i64 t285, .slice Ao20 t302.length co20, .string t289], .int .i64 1] rfl (by (try simp only [List.map_toArray, List.map_cons, List.map_nil]); first | done | (rw [show t302.length = t286.length from (Kd.R_reads' HO_293001.1).1.symm] <;> rfl) | rfl | (simp only [List.length_drop, List.length_take]; rfl)) ?_; (with_reducible refine (laws_heldResp.calls kj40 t285 _ _ t302 t289 1 t303 _ ?side1 ?side2 A63.1).mono ?_); (case side1 => repeat (first | exact (Kd.R_reads' HO_293001.1).2.2 | (with_reducible refine Kd.C_alloc ?_ _) | (with_reducible refine Kd.C_drewN ?_ _) | (with_reducible refine Kd.C_drew ?_))); (case side2 => rw [show t302.length = t286.length from (Kd.R_reads' HO_293001.1).1.symm]; exact (Kd.R_reads' HO_293001.1).2.1); rintro e w128 ⟨rfl, hb⟩; refine ⟨_, rfl, ?_⟩; have n0_ := Aside0.mk (Kd.R_below (by (with_reducible repeat (first | apply rA_ | apply rN_ | apply rD_)); exact HO_282001.1) hb); have n1_ := Aside0.mk (Kd.R_below (by (with_reducible repeat (first | apply rA_ | apply rN_ | apply rD_)); exact HO_293001.1) hb); have n2_ := Aside0.mk (bB_ (g := gb281) (o := .cells #[.int .i64 t274, .slice Ao13 t275.length co13, .string t278] 25 (0, 0)) (by (with_reducible repeat (first | refine bN_ ?_ _ | refine bD_ ?_ | refine bA_ ?_ _)); exact BK281.1) hb); have n3_ := Aside0.mk (bB_ (g := gb292) (o := .cells #[.int .i64 t285, .slice Ao20 t286.length co20, .string t289] 25 (0, 0)) (by (with_reducible repeat (first | refine bN_ ?_ _ | refine bD_ ?_ | refine bA_ ?_ _)); exact BK292.1) hb); have n4_ := Aside0.mk (below_step (by repeat (first | (with_reducible first | exact HB.1 | apply aB_ | apply pN_ | apply dB_ | refine sB_ ?_ GE281.1 | refine sB_ ?_ GE292.1) | exact HB.1)) hb); clear HO_282001 HO_293001; clear BK281 BK292 HB; have HO_282001 := n0_; have HO_293001 := n1_; have BK281 := n2_; have BK292 := n3_; have HB := n4_; clear n0_ n1_ n2_ n3_ n4_; (try clear hb); (try clear hb2); (try clear hk); (try clear hi)))
           go_ret
           exact ⟨by first | rfl | exact absurd hr_ (by decide) | (rw [hr_]; done) | (simp only [hr_]; done) | (simp [errW_none, errW_some] <;> rfl) | (simp [*, errW_none, errW_some] <;> rfl), by repeat (first | (with_reducible first | exact HB.1 | apply aB_ | apply pN_ | apply dB_ | refine sB_ ?_ GE281.1 | refine sB_ ?_ GE292.1) | exact HB.1)⟩
     ·replace c39 := Bool.eq_false_iff.mpr c39
      subst c39
      have H1 : (some false) = some true := by rw [if_neg (show ¬ (false = true) by decide)] at H; exact H
      clear H
      have H := H1
      clear H1
      have hr_ := Option.some.inj H
      go_wp2_with (first | ((with_reducible refine gate_callee (f := 13) rfl ?_); refine goesL_ (some 50) rfl rfl Tryz.func13 (by kernel_rfl) rfl #[.slice A0 l0.length c0] rfl (by (try simp only [List.map_toArray, List.map_cons, List.map_nil]); first | done | rfl | (simp only [List.length_drop, List.length_take]; rfl)) ?_; (with_reducible refine (laws_toByteS.calls kj6 _ _ l0 t294 _ ?side1 ?side2 A37.1).mono ?_); (case side1 => repeat (first | exact (Kd.C_below HR0.1 HB.1) | (with_reducible refine Kd.C_alloc ?_ _) | (with_reducible refine Kd.C_drewN ?_ _) | (with_reducible refine Kd.C_drew ?_))); (case side2 => exact HC0.1); rintro e w129 ⟨v295, rfl, ho0, hb⟩; refine ⟨_, rfl, ?_⟩; have n0_ := Aside0.mk (Kd.R_elder' (by (with_reducible repeat (first | apply rA_ | apply rN_ | apply rD_)); exact HO_6.1) (Kd.R_base ho0) hb); have n1_ := Aside0.mk (Kd.R_below (by (with_reducible repeat (first | apply rA_ | apply rN_ | apply rD_)); exact HO_282001.1) hb); have n2_ := Aside0.mk (Kd.R_below (by (with_reducible repeat (first | apply rA_ | apply rN_ | apply rD_)); exact HO_293001.1) hb); have n3_ := Aside0.mk (Kd.R_lower (Kd.R_new' ho0 (Kd.R_lt (by (with_reducible repeat (first | apply rA_ | apply rN_ | apply rD_)); exact HO_6.1))) (below_size (by repeat (first | (with_reducible first | exact HB.1 | apply aB_ | apply pN_ | apply dB_ | refine sB_ ?_ GE281.1 | refine sB_ ?_ GE292.1) | exact HB.1)))); have n4_ := Aside0.mk (bB_ (g := gb281) (o := .cells #[.int .i64 t274, .slice Ao13 t275.length co13, .string t278] 25 (0, 0)) (by (with_reducible repeat (first | refine bN_ ?_ _ | refine bD_ ?_ | refine bA_ ?_ _)); exact BK281.1) hb); have n5_ := Aside0.mk (bB_ (g := gb292) (o := .cells #[.int .i64 t285, .slice Ao20 t286.length co20, .string t289] 25 (0, 0)) (by (with_reducible repeat (first | refine bN_ ?_ _ | refine bD_ ?_ | refine bA_ ?_ _)); exact BK292.1) hb); have n6_ := Aside0.mk (below_step (by repeat (first | (with_reducible first | exact HB.1 | apply aB_ | apply pN_ | apply dB_ | refine sB_ ?_ GE281.1 | refine sB_ ?_ GE292.1) | exact HB.1)) hb); clear HO_6 HO_282001; clear HO_293001 BK281; clear BK292 HB; have HO_6 := n0_; have HO_282001 := n1_; have HO_293001 := n2_; have HO296 := n3_; have BK281 := n4_; have BK292 := n5_; have HB := n6_; clear n0_ n1_ n2_ n3_ n4_ n5_ n6_; (try clear hb); (try clear hb2); (try clear hk); (try clear hi); (try clear ho0); obtain ⟨Ao130, co130, eo130⟩ := Kd.R_slice HO296.1; subst eo130) | ((with_reducible refine gate_callee (f := 16) rfl ?_); refine goesL_ (some 51) rfl rfl Tryz.func16 (by kernel_rfl) rfl #[.slice Ao15 t271.length co15, .slice Ao130 t294.length co130] rfl (by (try simp only [List.map_toArray, List.map_cons, List.map_nil]); first | done | rfl | (simp only [List.length_drop, List.length_take]; rfl)) ?_; (with_reducible refine (laws_eqByteS.calls kj6 _ _ t271 _ _ t294 false _ ?side1 ?side2 ?side3 ?side4 A38.1).mono ?_); (case side1 => repeat (first | exact (Kd.R_reads' HO_6.1).2.2 | (with_reducible refine Kd.C_alloc ?_ _) | (with_reducible refine Kd.C_drewN ?_ _) | (with_reducible refine Kd.C_drew ?_))); (case side2 => exact (Kd.R_reads' HO_6.1).2.1); (case side3 => repeat (first | exact (Kd.R_reads' HO296.1).2.2 | (with_reducible refine Kd.C_alloc ?_ _) | (with_reducible refine Kd.C_drewN ?_ _) | (with_reducible refine Kd.C_drew ?_))); (case side4 => exact (Kd.R_reads' HO296.1).2.1); rintro e w' ⟨rfl, ⟨nd, rfl⟩⟩; refine ⟨_, rfl, ?_⟩))
      go_ret
      exact ⟨by first | rfl | exact absurd hr_ (by decide) | (rw [hr_]; done) | (simp only [hr_]; done) | (simp [errW_none, errW_some] <;> rfl) | (simp [*, errW_none, errW_some] <;> rfl), by repeat (first | (with_reducible first | exact HB.1 | apply aB_ | apply pN_ | apply dB_ | refine sB_ ?_ GE281.1 | refine sB_ ?_ GE292.1) | exact HB.1)⟩


/-- THE ONE PURE STATEMENT of laws_FnExactGetResp: yours. -/
def laws_FnExactGetResp.Pure : Prop := ∀ (l0 : List Int), (l0.length ≤ 9223372036854775807 ∧ ∀ x ∈ l0, (Lit.int .u8 x).wf = true) → l0.length ≤ 140737488351232 → ∃ k, laws_FnExactGetResp.f k l0 = some true
theorem laws_FnExactGetResp.walk (P : laws_FnExactGetResp.Pure) (A0 : Option Addr) (c0 : Nat) (l0 : List Int) (w : World) (hr0 : Kd.C (Kd.int .u8) w A0 l0.length l0) (hc0 : l0.length ≤ c0) (w0 : (l0.length ≤ 9223372036854775807 ∧ ∀ x ∈ l0, (Lit.int .u8 x).wf = true)) (w1 : l0.length ≤ 140737488351232) (hG : GOK w) :
  Calls Tryz.prog 3 #[.slice A0 l0.length c0] w fun e w' => e = .returned (.bool true) ∧ Below w.heap.size w w' := by
 obtain ⟨k, h⟩ := P l0 w0 w1
 refine (laws_FnExactGetResp.calls k _ _ l0 w hr0 hc0 h hG).mono ?_
 rintro e w' ⟨rfl, hd⟩
 exact ⟨rfl, hd⟩

end Go.Proofs.YtfncjddolbghlaaGreatDoor.GFnExactGetResp
