-- by gprint.py (this session's program over the kit's print.py) (a twelfth state) out of the translation. Not trusted: Lean checks it.
import Derived.Test.YtfncjddolbghlaaGreatDoorGFnExactGetRespx0
import Derived.Test.YtfncjddolbghlaaGreatDoorGFnExactGetRespx7
namespace Go.Proofs.YtfncjddolbghlaaGreatDoor.GFnExactGetResp
open Go.RowKit Go.Proofs.YtfncjddolbghlaaGreatDoorW.PrintWords Go.Proofs.YtfncjddolbghlaaGreatDoorW.PrintLast Go.Proofs.YtfncjddolbghlaaGreatDoorW.PrintMore
attribute [local go_sem] max2_int min2_int max_two min_two max_three min_three max_four min_four   -- for this text's walks alone
set_option linter.unusedVariables false
set_option linter.unusedSimpArgs false
set_option maxRecDepth 100000
set_option maxHeartbeats 8000000

mutual
def impl_GetResp.j0 : Nat → List Int → ByteArray → List ByteArray → Int → Bool → Int → ByteArray → Option (Int × (List (S88)) × ByteArray × Int × Bool)
 | 0, _, _, _, _, _, _, _ => none
 | k + 1, x0, x6, x8, x9, x49, x221000, x221002 => if x49 = true then (some (0, ([] : List (S88)), (⟨#[]⟩ : ByteArray), 0, false)) else (if 1 ≤ x9 then (if x9 ≤ (x8.length : Int) then ((some ((x8.take (x9 : Int).toNat).drop 1 : List ByteArray)).bind fun y225 => (impl_GetResp.l0 k x0 x6 x8 x9 y225 (y225.length : Int) 0 x221000 ([] : List (S88)) x221002)) else (none)) else (none))
def impl_GetResp.l0 : Nat → List Int → ByteArray → List ByteArray → Int → List ByteArray → Int → Int → Int → List (S88) → ByteArray → Option (Int × (List (S88)) × ByteArray × Int × Bool)
 | 0, _, _, _, _, _, _, _, _, _, _ => none
 | k + 1, x0, x6, x8, x9, x53, x54, x55, x221000, x221001, x221002 => if x55 < x54 then (if 0 ≤ x55 then (if x55 < (x53.length : Int) then ((strings_Cut.f (rdOf ByteArray.empty x53 x55) (⟨#[58, 32]⟩ : ByteArray)).bind fun bt230 => (if x221001.length < 4398046511104 then (impl_GetResp.l0 k x0 x6 x8 x9 x53 x54 (wrap64 (x55 + 1)) x221000 (x221001 ++ [(⟨bt230.1, bt230.2.1⟩ : S88)]) x221002) else (none))) else (none)) else (none)) else (if 0 ≤ x9 then (if x9 < (x8.length : Int) then ((strings_TrimPrefix.f (rdOf ByteArray.empty x8 x9) (⟨#[99, 111, 110, 116, 101, 110, 116, 45, 108, 101, 110, 103, 116, 104, 58, 32]⟩ : ByteArray)).bind fun t237 => ((impl_ParseNum.f t237 400).bind fun bt238 => (if bt238.2 = true then (impl_GetResp.j2 k x0 x6 bt238.1 (decide (bt238.1 > (x6.size : Int))) x221000 x221001 x221002) else (impl_GetResp.j2 k x0 x6 bt238.1 true x221000 x221001 x221002)))) else (none)) else (none))
def impl_GetResp.j2 : Nat → List Int → ByteArray → Int → Bool → Int → List (S88) → ByteArray → Option (Int × (List (S88)) × ByteArray × Int × Bool)
 | 0, _, _, _, _, _, _, _ => none
 | k + 1, x0, x6, x16, x90, x221000, x221001, x221002 => if x90 = true then (some (0, ([] : List (S88)), (⟨#[]⟩ : ByteArray), 0, false)) else (if 0 ≤ x16 then (if x16 ≤ (x6.size : Int) then ((impl_PutResp.f k x221000 x221001 (x6.extract 0 (x16 : Int).toNat)).bind fun t240 => (if (t240.length : Int) = 0 then (some (0, ([] : List (S88)), (⟨#[]⟩ : ByteArray), 0, false)) else ((strings_HasPrefix.f (strOfNums x0) (strOfNums t240)).bind fun t243 => (if t243 = true then (some (x221000, x221001, x6.extract 0 (x16 : Int).toNat, (t240.length : Int), true)) else (some (0, ([] : List (S88)), (⟨#[]⟩ : ByteArray), 0, false)))))) else (none)) else (none))
end
def impl_GetResp.f (k : Nat) (l0 : List Int) : Option (Int × (List (S88)) × ByteArray × Int × Bool) := (strings_Cut.f (strOfNums l0) (⟨#[13, 10, 13, 10]⟩ : ByteArray)).bind fun bt214 => ((strings_Split.f bt214.1 (⟨#[13, 10]⟩ : ByteArray)).bind fun t217 => (if 0 < (t217.length : Int) then ((strings_TrimPrefix.f (rdOf ByteArray.empty t217 0) (⟨#[72, 84, 84, 80, 47, 49, 46, 49, 32]⟩ : ByteArray)).bind fun t222 => ((impl_ParseNum.f t222 599).bind fun bt223 => (if bt214.2.2 = true then (if (wrap64 ((t217.length : Int) - 1)) < 1 then (impl_GetResp.j0 k l0 bt214.2.1 t217 (wrap64 ((t217.length : Int) - 1)) true bt223.1 (⟨#[]⟩ : ByteArray)) else (impl_GetResp.j0 k l0 bt214.2.1 t217 (wrap64 ((t217.length : Int) - 1)) (decide ((wrap64 ((t217.length : Int) - 1)) > 9)) bt223.1 (⟨#[]⟩ : ByteArray))) else (impl_GetResp.j0 k l0 bt214.2.1 t217 (wrap64 ((t217.length : Int) - 1)) true bt223.1 (⟨#[]⟩ : ByteArray))))) else (none)))

theorem impl_GetResp.calls (k : Nat) (A0 : Option Addr) (c0 : Nat) (l0 : List Int) (r1 : Int) (r2 : List (S88)) (r3 : ByteArray) (r4 : Int) (r5 : Bool) (w : World) (hr0 : Kd.C (Kd.int .u8) w A0 l0.length l0) (hc0 : l0.length ≤ c0) (h : impl_GetResp.f k l0 = some (r1, r2, r3, r4, r5)) (hG : GOK w) :
  Calls Tryz.prog 14 #[.slice A0 l0.length c0] w fun e w' => ∃ v1_ : Value, e = .returned (.tuple #[.agg #[.int .i64 r1, v1_, .string r3], .int .i64 r4, .bool r5]) ∧ Kd.R k88 88 w' w.heap.size (fun _ => True) v1_ r2 ∧ Below w.heap.size w w' := by
 have hu25 := Tryz.underlying25
 have hu88 := Tryz.underlying88
 have HR0 := Aside0.mk hr0
 have HC0 := Aside0.mk hc0
 clear hr0 hc0
 have HB := Aside0.mk (Below.refl w.heap.size w)
 have H : ((strings_Cut.f (strOfNums l0) (⟨#[13, 10, 13, 10]⟩ : ByteArray)).bind fun bt214 => ((strings_Split.f bt214.1 (⟨#[13, 10]⟩ : ByteArray)).bind fun t217 => (if 0 < (t217.length : Int) then ((strings_TrimPrefix.f (rdOf ByteArray.empty t217 0) (⟨#[72, 84, 84, 80, 47, 49, 46, 49, 32]⟩ : ByteArray)).bind fun t222 => ((impl_ParseNum.f t222 599).bind fun bt223 => (if bt214.2.2 = true then (if (wrap64 ((t217.length : Int) - 1)) < 1 then (impl_GetResp.j0 k l0 bt214.2.1 t217 (wrap64 ((t217.length : Int) - 1)) true bt223.1 (⟨#[]⟩ : ByteArray)) else (impl_GetResp.j0 k l0 bt214.2.1 t217 (wrap64 ((t217.length : Int) - 1)) (decide ((wrap64 ((t217.length : Int) - 1)) > 9)) bt223.1 (⟨#[]⟩ : ByteArray))) else (impl_GetResp.j0 k l0 bt214.2.1 t217 (wrap64 ((t217.length : Int) - 1)) true bt223.1 (⟨#[]⟩ : ByteArray))))) else (none)))) = some (r1, r2, r3, r4, r5) := h
 clear h
 replace H := Option.bind_eq_some_iff.mp H
 obtain ⟨⟨t214, t215, t216⟩, A20, H⟩ := H
 replace H : ((strings_Split.f t214 (⟨#[13, 10]⟩ : ByteArray)).bind fun t217 => (if 0 < (t217.length : Int) then ((strings_TrimPrefix.f (rdOf ByteArray.empty t217 0) (⟨#[72, 84, 84, 80, 47, 49, 46, 49, 32]⟩ : ByteArray)).bind fun t222 => ((impl_ParseNum.f t222 599).bind fun bt223 => (if t216 = true then (if (wrap64 ((t217.length : Int) - 1)) < 1 then (impl_GetResp.j0 k l0 t215 t217 (wrap64 ((t217.length : Int) - 1)) true bt223.1 (⟨#[]⟩ : ByteArray)) else (impl_GetResp.j0 k l0 t215 t217 (wrap64 ((t217.length : Int) - 1)) (decide ((wrap64 ((t217.length : Int) - 1)) > 9)) bt223.1 (⟨#[]⟩ : ByteArray))) else (impl_GetResp.j0 k l0 t215 t217 (wrap64 ((t217.length : Int) - 1)) true bt223.1 (⟨#[]⟩ : ByteArray))))) else (none))) = some (r1, r2, r3, r4, r5) := H
 have A2 := Aside0.mk A20
 clear A20
 replace H := Option.bind_eq_some_iff.mp H
 obtain ⟨t217, A30, H⟩ := H
 replace H : (if 0 < (t217.length : Int) then ((strings_TrimPrefix.f (rdOf ByteArray.empty t217 0) (⟨#[72, 84, 84, 80, 47, 49, 46, 49, 32]⟩ : ByteArray)).bind fun t222 => ((impl_ParseNum.f t222 599).bind fun bt223 => (if t216 = true then (if (wrap64 ((t217.length : Int) - 1)) < 1 then (impl_GetResp.j0 k l0 t215 t217 (wrap64 ((t217.length : Int) - 1)) true bt223.1 (⟨#[]⟩ : ByteArray)) else (impl_GetResp.j0 k l0 t215 t217 (wrap64 ((t217.length : Int) - 1)) (decide ((wrap64 ((t217.length : Int) - 1)) > 9)) bt223.1 (⟨#[]⟩ : ByteArray))) else (impl_GetResp.j0 k l0 t215 t217 (wrap64 ((t217.length : Int) - 1)) true bt223.1 (⟨#[]⟩ : ByteArray))))) else (none)) = some (r1, r2, r3, r4, r5) := H
 have A3 := Aside0.mk A30
 clear A30
 by_cases c4 : 0 < (t217.length : Int)
 ·rw [if_pos c4] at H
  have c4b0 : decide (0 < (t217.length : Int)) = true := decide_eq_true c4
  have c4b1 : decide (0 < t217.length) = true := decide_eq_true (by omega)
  clear c4
  replace H := Option.bind_eq_some_iff.mp H
  obtain ⟨t222, A50, H⟩ := H
  replace H : ((impl_ParseNum.f t222 599).bind fun bt223 => (if t216 = true then (if (wrap64 ((t217.length : Int) - 1)) < 1 then (impl_GetResp.j0 k l0 t215 t217 (wrap64 ((t217.length : Int) - 1)) true bt223.1 (⟨#[]⟩ : ByteArray)) else (impl_GetResp.j0 k l0 t215 t217 (wrap64 ((t217.length : Int) - 1)) (decide ((wrap64 ((t217.length : Int) - 1)) > 9)) bt223.1 (⟨#[]⟩ : ByteArray))) else (impl_GetResp.j0 k l0 t215 t217 (wrap64 ((t217.length : Int) - 1)) true bt223.1 (⟨#[]⟩ : ByteArray)))) = some (r1, r2, r3, r4, r5) := H
  have A5 := Aside0.mk A50
  clear A50
  replace H := Option.bind_eq_some_iff.mp H
  obtain ⟨⟨t223, t224⟩, A60, H⟩ := H
  replace H : (if t216 = true then (if (wrap64 ((t217.length : Int) - 1)) < 1 then (impl_GetResp.j0 k l0 t215 t217 (wrap64 ((t217.length : Int) - 1)) true t223 (⟨#[]⟩ : ByteArray)) else (impl_GetResp.j0 k l0 t215 t217 (wrap64 ((t217.length : Int) - 1)) (decide ((wrap64 ((t217.length : Int) - 1)) > 9)) t223 (⟨#[]⟩ : ByteArray))) else (impl_GetResp.j0 k l0 t215 t217 (wrap64 ((t217.length : Int) - 1)) true t223 (⟨#[]⟩ : ByteArray))) = some (r1, r2, r3, r4, r5) := H
  have A6 := Aside0.mk A60
  clear A60
  have HC7 := Aside0.mk H
  clear H
  go_enter Tryz.func14, Tryz.ntmps14
  go_upto_region 6 with (first | ((with_reducible refine gate_dst (N := 2) rfl ?_); (try (refine gate_guard (by rfl) ?_; dsimp only)); refine box_event ?hg (N := 2) ?hd (cs := #[.int .i64 0, .slice none 0 0, .string (⟨#[]⟩ : ByteArray)]) (t := 25) ?hr ?_; (case hd => rfl); (case hg => rfl); (case hr => first | (go_simp; done) | (go_simp; rfl)); intro gb213 hg w8 hbox hb; have n0_ := Aside0.mk (below_step (by repeat (first | (with_reducible first | exact HB.1 | apply aB_ | apply pN_ | apply dB_) | exact HB.1)) hb); have n1_ := Aside0.mk (hbox); have n2_ := Aside0.mk ((by rw [hg]; exact (below_size (by repeat (first | (with_reducible first | exact HB.1 | apply aB_ | apply pN_ | apply dB_) | exact HB.1))) : w.heap.size ≤ gb213)); have n3_ := Aside0.mk ((by rw [hg]; exact (below_size (by repeat (first | (with_reducible first | exact HB.1 | apply aB_ | apply pN_ | apply dB_) | exact HB.1))) : w.heap.size ≤ gb213)); clear HB; have HB := n0_; have BK213 := n1_; have GW213 := n2_; have GE213 := n3_; clear n0_ n1_ n2_ n3_; clear hb hbox hg; have hcv9 := Kd.C_string (P := Tryz.prog) (A := A0) (c := c0) Tryz.underlying22 Tryz.underlying5 Tryz.underlying9 (Kd.C_below HR0.1 HB.1); have hcv10 := fun nq_ : Nat => Kd.C_string (P := Tryz.prog) (A := A0) (c := c0) Tryz.underlying22 Tryz.underlying5 Tryz.underlying9 (Kd.C_drewN (Kd.C_below HR0.1 HB.1) nq_)) | ((with_reducible refine gate_callee (f := 76) rfl ?_); refine goesL_ (some 22) rfl rfl Tryz.func76 (by kernel_rfl) rfl #[.string (strOfNums l0), .string (⟨#[13, 10, 13, 10]⟩ : ByteArray)] rfl (by (try simp only [List.map_toArray, List.map_cons, List.map_nil]); first | done | rfl | (simp only [List.length_drop, List.length_take]; rfl)) ?_; (with_reducible refine (strings_Cut.calls (strOfNums l0) (⟨#[13, 10, 13, 10]⟩ : ByteArray) t214 t215 t216 _ A2.1 ?side99).mono ?_); (case side99 => first | (with_reducible exact hG) | (refine GOK_below hG ?_; (repeat (first | (with_reducible first | exact HB.1 | apply aB_ | apply pN_ | apply dB_ | refine sB_ ?_ GE213.1 | refine sB_ ?_ GE220.1) | exact HB.1)); done) | (refine GOK_drawn hG ?_; (repeat (first | exact Drawn0.refl _ | apply Drawn0.step)); done) | exact hG); rintro e w' ⟨rfl, ⟨nd, rfl⟩⟩; refine ⟨_, rfl, ?_⟩; (try (rw [drewN_self w8]; generalize hq_ : World.drewN w8 _ = w8; have n0_ : Aside0 (w8.heap[gb213]? = some (.cells #[.int .i64 0, .slice none 0 0, .string (⟨#[]⟩ : ByteArray)] 25 (0, 0))) := ⟨by rw [← hq_]; exact (by (with_reducible repeat (first | refine bN_ ?_ _ | refine bD_ ?_ | refine bA_ ?_ _)); exact BK213.1)⟩; have n1_ : Aside0 (Below w.heap.size w w8) := ⟨by rw [← hq_]; exact (by repeat (first | (with_reducible first | exact HB.1 | apply aB_ | apply pN_ | apply dB_ | refine sB_ ?_ GE213.1) | exact HB.1))⟩; clear BK213 HB hq_; have BK213 := n0_; have HB := n1_; clear n0_ n1_))) | ((with_reducible refine gate_callee (f := 77) rfl ?_); refine goesL_ (some 27) rfl rfl Tryz.func77 (by kernel_rfl) rfl #[.string t214, .string (⟨#[13, 10]⟩ : ByteArray)] rfl (by (try simp only [List.map_toArray, List.map_cons, List.map_nil]); first | done | rfl | (simp only [List.length_drop, List.length_take]; rfl)) ?_; (with_reducible refine (strings_Split.calls t214 (⟨#[13, 10]⟩ : ByteArray) t217 _ A3.1 ?side99).mono ?_); (case side99 => first | (with_reducible exact hG) | (refine GOK_below hG ?_; (repeat (first | (with_reducible first | exact HB.1 | apply aB_ | apply pN_ | apply dB_ | refine sB_ ?_ GE213.1 | refine sB_ ?_ GE220.1) | exact HB.1)); done) | (refine GOK_drawn hG ?_; (repeat (first | exact Drawn0.refl _ | apply Drawn0.step)); done) | exact hG); rintro e w11 ⟨v218, rfl, ho0, hb⟩; refine ⟨_, rfl, ?_⟩; have n0_ := Aside0.mk (Kd.R_lower ho0 (below_size (by repeat (first | (with_reducible first | exact HB.1 | apply aB_ | apply pN_ | apply dB_ | refine sB_ ?_ GE213.1) | exact HB.1)))); have n1_ := Aside0.mk (bB_ (g := gb213) (o := .cells #[.int .i64 0, .slice none 0 0, .string (⟨#[]⟩ : ByteArray)] 25 (0, 0)) (by (with_reducible repeat (first | refine bN_ ?_ _ | refine bD_ ?_ | refine bA_ ?_ _)); exact BK213.1) hb); have n2_ := Aside0.mk (below_step (by repeat (first | (with_reducible first | exact HB.1 | apply aB_ | apply pN_ | apply dB_ | refine sB_ ?_ GE213.1) | exact HB.1)) hb); clear BK213 HB; have HO219 := n0_; have BK213 := n1_; have HB := n2_; clear n0_ n1_ n2_; (try clear hb); (try clear hb2); (try clear hk); (try clear hi); (try clear ho0); obtain ⟨Ao12, co12, eo12⟩ := Kd.R_slice HO219.1; subst eo12) | ((with_reducible refine gate_dst (N := 10) rfl ?_); (try (refine gate_guard (by rfl) ?_; dsimp only)); refine box_event ?hg (N := 10) ?hd (cs := #[.int .i64 0, .slice none 0 0, .string (⟨#[]⟩ : ByteArray)]) (t := 25) ?hr ?_; (case hd => rfl); (case hg => rfl); (case hr => first | (go_simp; done) | (go_simp; rfl)); intro gb220 hg w13 hbox hb; have n0_ := Aside0.mk (Kd.R_below (by (with_reducible repeat (first | apply rA_ | apply rN_ | apply rD_)); exact HO219.1) hb); have n1_ := Aside0.mk (bB_ (g := gb213) (o := .cells #[.int .i64 0, .slice none 0 0, .string (⟨#[]⟩ : ByteArray)] 25 (0, 0)) (by (with_reducible repeat (first | refine bN_ ?_ _ | refine bD_ ?_ | refine bA_ ?_ _)); exact BK213.1) hb); have n2_ := Aside0.mk (below_step (by repeat (first | (with_reducible first | exact HB.1 | apply aB_ | apply pN_ | apply dB_ | refine sB_ ?_ GE213.1) | exact HB.1)) hb); have n3_ := Aside0.mk (hbox); have n4_ := Aside0.mk ((by rw [hg]; exact (below_size (by repeat (first | (with_reducible first | exact HB.1 | apply aB_ | apply pN_ | apply dB_ | refine sB_ ?_ GE213.1) | exact HB.1))) : w.heap.size ≤ gb220)); have n5_ := Aside0.mk ((by rw [hg]; exact (below_size (by repeat (first | (with_reducible first | exact HB.1 | apply aB_ | apply pN_ | apply dB_ | refine sB_ ?_ GE213.1) | exact HB.1))) : w.heap.size ≤ gb220)); have n6_ := Aside0.mk ((by rw [hg]; exact Nat.ne_of_lt (blk_lt (g := gb213) (o := .cells #[.int .i64 0, .slice none 0 0, .string (⟨#[]⟩ : ByteArray)] 25 (0, 0)) (by (with_reducible repeat (first | refine bN_ ?_ _ | refine bD_ ?_ | refine bA_ ?_ _)); exact BK213.1)) : gb213 ≠ gb220)); have n7_ := Aside0.mk ((by rw [hg]; exact Nat.ne_of_gt (blk_lt (g := gb213) (o := .cells #[.int .i64 0, .slice none 0 0, .string (⟨#[]⟩ : ByteArray)] 25 (0, 0)) (by (with_reducible repeat (first | refine bN_ ?_ _ | refine bD_ ?_ | refine bA_ ?_ _)); exact BK213.1)) : gb220 ≠ gb213)); clear HO219 BK213 HB; have HO219 := n0_; have BK213 := n1_; have HB := n2_; have BK220 := n3_; have GW220 := n4_; have GE220 := n5_; have NB213_220 := n6_; have NB220_213 := n7_; clear n0_ n1_ n2_ n3_ n4_ n5_ n6_ n7_; clear hb hbox hg; have p221 : 0 ≤ (0 : Int) := (by omega); have q221 : 0 < (t217.length : Int) := of_decide_eq_true (by first | (with_reducible assumption) | assumption); obtain ⟨ad221, e221, hx221_0⟩ := Kd.at_string (Kd.R_reads' HO219.1).2.2 0 p221 q221; cases e221; have qi221 : (0 < t217.length) = True := eq_true (by omega); (try rw [show ((0 : Int)).toNat = 0 from rfl] at hx221_0); (try rw [Addr.add_zero'] at hx221_0); replace p221 := eq_true p221; replace q221 := eq_true q221) | ((with_reducible refine gate_callee (f := 79) rfl ?_); refine goesL_ (some 35) rfl rfl Tryz.func79 (by kernel_rfl) rfl #[.string (rdOf ByteArray.empty t217 0), .string (⟨#[72, 84, 84, 80, 47, 49, 46, 49, 32]⟩ : ByteArray)] rfl (by (try simp only [List.map_toArray, List.map_cons, List.map_nil]); first | done | rfl | (simp only [List.length_drop, List.length_take]; rfl)) ?_; (with_reducible refine (strings_TrimPrefix.calls (rdOf ByteArray.empty t217 0) (⟨#[72, 84, 84, 80, 47, 49, 46, 49, 32]⟩ : ByteArray) t222 _ A5.1).mono ?_); rintro e w' ⟨rfl, ⟨nd, rfl⟩⟩; refine ⟨_, rfl, ?_⟩; (try (rw [drewN_self w13]; generalize hq_ : World.drewN w13 _ = w13; have n0_ : Aside0 (Kd.R Kd.string 9 w13 w.heap.size (fun _ => True) (.slice (some ad221) t217.length co12) t217) := ⟨by rw [← hq_]; exact (by (with_reducible repeat (first | apply rA_ | apply rN_ | apply rD_)); exact HO219.1)⟩; have n1_ : Aside0 (w13.heap[gb213]? = some (.cells #[.int .i64 0, .slice none 0 0, .string (⟨#[]⟩ : ByteArray)] 25 (0, 0))) := ⟨by rw [← hq_]; exact (by (with_reducible repeat (first | refine bN_ ?_ _ | refine bD_ ?_ | refine bA_ ?_ _)); exact BK213.1)⟩; have n2_ : Aside0 (w13.heap[gb220]? = some (.cells #[.int .i64 0, .slice none 0 0, .string (⟨#[]⟩ : ByteArray)] 25 (0, 0))) := ⟨by rw [← hq_]; exact (by (with_reducible repeat (first | refine bN_ ?_ _ | refine bD_ ?_ | refine bA_ ?_ _)); exact BK220.1)⟩; have n3_ : Aside0 (Below w.heap.size w w13) := ⟨by rw [← hq_]; exact (by repeat (first | (with_reducible first | exact HB.1 | apply aB_ | apply pN_ | apply dB_ | refine sB_ ?_ GE213.1 | refine sB_ ?_ GE220.1) | exact HB.1))⟩; clear HO219 BK213 BK220 HB hq_; have HO219 := n0_; have BK213 := n1_; have BK220 := n2_; have HB := n3_; clear n0_ n1_ n2_ n3_))) | ((with_reducible refine gate_callee (f := 78) rfl ?_); refine goesL_ (some 36) rfl rfl Tryz.func78 (by kernel_rfl) rfl #[.string t222, .int .i64 599] rfl (by (try simp only [List.map_toArray, List.map_cons, List.map_nil]); first | done | rfl | (simp only [List.length_drop, List.length_take]; rfl)) ?_; (with_reducible refine (impl_ParseNum.calls t222 599 t223 t224 _ A6.1 ?side99).mono ?_); (case side99 => first | (with_reducible exact hG) | (refine GOK_below hG ?_; (repeat (first | (with_reducible first | exact HB.1 | apply aB_ | apply pN_ | apply dB_ | refine sB_ ?_ GE213.1 | refine sB_ ?_ GE220.1) | exact HB.1)); done) | (refine GOK_drawn hG ?_; (repeat (first | exact Drawn0.refl _ | apply Drawn0.step)); done) | exact hG); rintro e w14 ⟨rfl, hb⟩; refine ⟨_, rfl, ?_⟩; have n0_ := Aside0.mk (Kd.R_below (by (with_reducible repeat (first | apply rA_ | apply rN_ | apply rD_)); exact HO219.1) hb); have n1_ := Aside0.mk (bB_ (g := gb213) (o := .cells #[.int .i64 0, .slice none 0 0, .string (⟨#[]⟩ : ByteArray)] 25 (0, 0)) (by (with_reducible repeat (first | refine bN_ ?_ _ | refine bD_ ?_ | refine bA_ ?_ _)); exact BK213.1) hb); have n2_ := Aside0.mk (bB_ (g := gb220) (o := .cells #[.int .i64 0, .slice none 0 0, .string (⟨#[]⟩ : ByteArray)] 25 (0, 0)) (by (with_reducible repeat (first | refine bN_ ?_ _ | refine bD_ ?_ | refine bA_ ?_ _)); exact BK220.1) hb); have n3_ := Aside0.mk (below_step (by repeat (first | (with_reducible first | exact HB.1 | apply aB_ | apply pN_ | apply dB_ | refine sB_ ?_ GE213.1 | refine sB_ ?_ GE220.1) | exact HB.1)) hb); clear HO219 BK213; clear BK220 HB; have HO219 := n0_; have BK213 := n1_; have BK220 := n2_; have HB := n3_; clear n0_ n1_ n2_ n3_; (try clear hb); (try clear hb2); (try clear hk); (try clear hi); have hnb15 := NB220_213.1; have hnc15 := NB213_220.1; have hcz16_0 : w14.cell? ⟨gb220, 0, none⟩ = some (.int .i64 0) := (bc_ BK220.1 0).trans rfl; have hcz16_1 : w14.cell? ⟨gb220, 1, none⟩ = some (.slice none 0 0) := (bc_ BK220.1 1).trans rfl; have hcz16_2 : w14.cell? ⟨gb220, 2, none⟩ = some (.string (⟨#[]⟩ : ByteArray)) := (bc_ BK220.1 2).trans rfl; have hfz16_0 := bF_ BK220.1 0; have hfz16_1 := bF_ BK220.1 1; have hfz16_2 := bF_ BK220.1 2))
  (try simp only [Act.put, List.setIfInBounds_toArray, List.set_cons_zero, List.set_cons_succ])
  go_cut [49] (fun v49 wc => ∃ (kq : Nat) (x49_6 : Bool), v49 = .bool x49_6 ∧ Aside0 (impl_GetResp.j0 kq l0 t215 t217 (wrap64 ((t217.length : Int) - 1)) x49_6 t223 (⟨#[]⟩ : ByteArray) = some (r1, r2, r3, r4, r5)) ∧ Aside0 (kq ≤ k) ∧ Aside0 (Kd.R Kd.string 9 wc w.heap.size (fun _ => True) (.slice (some ad221) t217.length co12) t217) ∧ Aside0 (wc.heap[gb213]? = some (.cells #[.int .i64 0, (.slice none 0 0), .string (⟨#[]⟩ : ByteArray)] 25 (0, 0))) ∧ Aside0 (wc.heap[gb220]? = some (.cells #[.int .i64 t223, (.slice none 0 0), .string (⟨#[]⟩ : ByteArray)] 25 (0, 0))) ∧ Aside0 (Below w.heap.size w wc))
  case first =>
   have H := HC7.1
   clear HC7
   by_cases c17 : t216 = true
   ·subst c17
    have H1 : (if (wrap64 ((t217.length : Int) - 1)) < 1 then (impl_GetResp.j0 k l0 t215 t217 (wrap64 ((t217.length : Int) - 1)) true t223 (⟨#[]⟩ : ByteArray)) else (impl_GetResp.j0 k l0 t215 t217 (wrap64 ((t217.length : Int) - 1)) (decide ((wrap64 ((t217.length : Int) - 1)) > 9)) t223 (⟨#[]⟩ : ByteArray))) = some (r1, r2, r3, r4, r5) := by rw [if_pos rfl] at H; exact H
    clear H
    have H := H1
    clear H1
    by_cases c18 : (wrap64 ((t217.length : Int) - 1)) < 1
    ·rw [if_pos c18] at H
     have c18b0 : decide ((wrap64 ((t217.length : Int) - 1)) < 1) = true := decide_eq_true c18
     clear c18
     (first | rw [c18b0] | (simp only [i64_w, i32_w]; rw [c18b0]) | skip)
     have H' := Aside0.mk H
     clear H
     go_wp2
     go_meet
     case rel => exact ⟨_, (true), (by first | rfl | (simp; done) | (simp [*]; done) | (simp [empty_ne, *]; done)), H', ⟨by first | omega | exact Nat.le_refl _⟩, ⟨by (with_reducible repeat (first | apply rA_ | apply rN_ | apply rD_)); exact Kd.R_mono (rF_ (p := ⟨gb220, 0, none⟩) (Kd.R_types HO219.1 BK220.1 (by decide)) (fun _ hk => hk.2) (.int .i64 t223)) (fun _ hk => trivial)⟩, ⟨by (with_reducible repeat (first | refine bN_ ?_ _ | refine bD_ ?_ | refine bA_ ?_ _)); refine blk_far ?_ NB213_220.1 _; (with_reducible repeat (first | refine bN_ ?_ _ | refine bD_ ?_ | refine bA_ ?_ _)); exact BK213.1⟩, ⟨by (with_reducible repeat (first | refine bN_ ?_ _ | refine bD_ ?_ | refine bA_ ?_ _)); refine blk_put (cs := #[.int .i64 0, .slice none 0 0, .string (⟨#[]⟩ : ByteArray)]) ?_ 0 _ rfl; (with_reducible repeat (first | refine bN_ ?_ _ | refine bD_ ?_ | refine bA_ ?_ _)); exact BK220.1⟩, ⟨by repeat (first | (with_reducible first | exact HB.1 | apply aB_ | apply pN_ | apply dB_ | refine sB_ ?_ GE213.1 | refine sB_ ?_ GE220.1) | exact HB.1)⟩⟩
    ·rw [if_neg c18] at H
     have c18b0 : decide ((wrap64 ((t217.length : Int) - 1)) < 1) = false := decide_eq_false c18
     clear c18
     (first | rw [c18b0] | (simp only [i64_w, i32_w]; rw [c18b0]) | skip)
     have H' := Aside0.mk H
     clear H
     go_wp2
     go_meet
     case rel => exact ⟨_, (decide ((wrap64 ((t217.length : Int) - 1)) > 9)), (by first | rfl | (simp; done) | (simp [*]; done) | (simp [empty_ne, *]; done)), H', ⟨by first | omega | exact Nat.le_refl _⟩, ⟨by (with_reducible repeat (first | apply rA_ | apply rN_ | apply rD_)); exact Kd.R_mono (rF_ (p := ⟨gb220, 0, none⟩) (Kd.R_types HO219.1 BK220.1 (by decide)) (fun _ hk => hk.2) (.int .i64 t223)) (fun _ hk => trivial)⟩, ⟨by (with_reducible repeat (first | refine bN_ ?_ _ | refine bD_ ?_ | refine bA_ ?_ _)); refine blk_far ?_ NB213_220.1 _; (with_reducible repeat (first | refine bN_ ?_ _ | refine bD_ ?_ | refine bA_ ?_ _)); exact BK213.1⟩, ⟨by (with_reducible repeat (first | refine bN_ ?_ _ | refine bD_ ?_ | refine bA_ ?_ _)); refine blk_put (cs := #[.int .i64 0, .slice none 0 0, .string (⟨#[]⟩ : ByteArray)]) ?_ 0 _ rfl; (with_reducible repeat (first | refine bN_ ?_ _ | refine bD_ ?_ | refine bA_ ?_ _)); exact BK220.1⟩, ⟨by repeat (first | (with_reducible first | exact HB.1 | apply aB_ | apply pN_ | apply dB_ | refine sB_ ?_ GE213.1 | refine sB_ ?_ GE220.1) | exact HB.1)⟩⟩
   ·replace c17 := Bool.eq_false_iff.mpr c17
    subst c17
    have H1 : (impl_GetResp.j0 k l0 t215 t217 (wrap64 ((t217.length : Int) - 1)) true t223 (⟨#[]⟩ : ByteArray)) = some (r1, r2, r3, r4, r5) := by rw [if_neg (show ¬ (false = true) by decide)] at H; exact H
    clear H
    have H := H1
    clear H1
    have H' := Aside0.mk H
    clear H
    go_wp2
    go_meet
    case rel => exact ⟨_, (true), (by first | rfl | (simp; done) | (simp [*]; done) | (simp [empty_ne, *]; done)), H', ⟨by first | omega | exact Nat.le_refl _⟩, ⟨by (with_reducible repeat (first | apply rA_ | apply rN_ | apply rD_)); exact Kd.R_mono (rF_ (p := ⟨gb220, 0, none⟩) (Kd.R_types HO219.1 BK220.1 (by decide)) (fun _ hk => hk.2) (.int .i64 t223)) (fun _ hk => trivial)⟩, ⟨by (with_reducible repeat (first | refine bN_ ?_ _ | refine bD_ ?_ | refine bA_ ?_ _)); refine blk_far ?_ NB213_220.1 _; (with_reducible repeat (first | refine bN_ ?_ _ | refine bD_ ?_ | refine bA_ ?_ _)); exact BK213.1⟩, ⟨by (with_reducible repeat (first | refine bN_ ?_ _ | refine bD_ ?_ | refine bA_ ?_ _)); refine blk_put (cs := #[.int .i64 0, .slice none 0 0, .string (⟨#[]⟩ : ByteArray)]) ?_ 0 _ rfl; (with_reducible repeat (first | refine bN_ ?_ _ | refine bD_ ?_ | refine bA_ ?_ _)); exact BK220.1⟩, ⟨by repeat (first | (with_reducible first | exact HB.1 | apply aB_ | apply pN_ | apply dB_ | refine sB_ ?_ GE213.1 | refine sB_ ?_ GE220.1) | exact HB.1)⟩⟩
  case rest =>
   clear HC7
   try clear c1
   try clear hcv1
   try clear p2
   try clear q2
   try clear hx2
   try clear qi2
   try clear c4
   try clear c4b0
   try clear c4b1
   try clear p6
   try clear c7
   try clear hcv9
   try clear hcv10
   try clear c14
   try clear c15
   try clear c17
   try clear c18
   try clear c18b0
   try clear hcz16_0
   try clear hcz16_1
   try clear hcz16_2
   try clear hfz16_0
   try clear hfz16_1
   try clear hfz16_2
   try clear hx221_0
   try clear p221
   try clear q221
   obtain ⟨kq, x49_6, rfl, HA, HJ6, HO_8, BK213, BK220, HB⟩ := hcut
   cases kq with
   | zero => exact absurd HA.1 (by simp [impl_GetResp.j0])
   | succ kj6 =>
    have H := HA.1
    clear HA
    simp only [impl_GetResp.j0] at H
    by_cases c19 : x49_6 = true
    ·subst c19
     have H1 : (some (0, ([] : List (S88)), (⟨#[]⟩ : ByteArray), 0, false)) = some (r1, r2, r3, r4, r5) := by rw [if_pos rfl] at H; exact H
     clear H
     have H := H1
     clear H1
     simp only [Option.some.injEq, Prod.mk.injEq] at H
     obtain ⟨rfl, rfl, rfl, rfl, rfl⟩ := H
     have hnb20 := NB213_220.1
     have hnc20 := NB220_213.1
     have hcz21_0 : wc.cell? ⟨gb213, 0, none⟩ = some (.int .i64 0) := (bc_ BK213.1 0).trans rfl
     have hcz21_1 : wc.cell? ⟨gb213, 1, none⟩ = some (.slice none 0 0) := (bc_ BK213.1 1).trans rfl
     have hcz21_2 : wc.cell? ⟨gb213, 2, none⟩ = some (.string (⟨#[]⟩ : ByteArray)) := (bc_ BK213.1 2).trans rfl
     have hfz21_0 := bF_ BK213.1 0
     have hfz21_1 := bF_ BK213.1 1
     have hfz21_2 := bF_ BK213.1 2
     go_wp2
     refine bodyPost_ret (results_ctt rfl _ _ gb213 25 #[.int .i64 0, .slice none 0 0, .string (⟨#[]⟩ : ByteArray)] (0, 0) _ rfl (by (with_reducible repeat (first | refine bN_ ?_ _ | refine bD_ ?_ | refine bA_ ?_ _)); refine blk_put (cs := #[.int .i64 0, .slice none 0 0, .string (⟨#[]⟩ : ByteArray)]) ?_ 2 _ rfl; (with_reducible repeat (first | refine bN_ ?_ _ | refine bD_ ?_ | refine bA_ ?_ _)); refine blk_put (cs := #[.int .i64 0, .slice none 0 0, .string (⟨#[]⟩ : ByteArray)]) ?_ 1 _ rfl; (with_reducible repeat (first | refine bN_ ?_ _ | refine bD_ ?_ | refine bA_ ?_ _)); refine blk_put (cs := #[.int .i64 0, .slice none 0 0, .string (⟨#[]⟩ : ByteArray)]) ?_ 0 _ rfl; (with_reducible repeat (first | refine bN_ ?_ _ | refine bD_ ?_ | refine bA_ ?_ _)); exact BK213.1) Tryz.underlying25 rfl (by kernel_rfl)) rfl ?_
     exact ⟨_, by first | rfl | (simp [errW_none, errW_some] <;> rfl) | (simp [*, errW_none, errW_some] <;> rfl), by first | exact Kd.R_nil _ _ _ _ _ | exact Kd.N_nil _ _ _ _ _ | exact Kd.V_nil _ _ _ _ _ | exact Kd.Q_nil _ _ _ _ _ | exact Kd.S_nil _ _ _ _ _, by repeat (first | (with_reducible first | exact HB.1 | apply aB_ | apply pN_ | apply dB_ | refine sB_ ?_ GE213.1 | refine sB_ ?_ GE220.1) | exact HB.1)⟩
    ·replace c19 := Bool.eq_false_iff.mpr c19
     subst c19
     have H1 : (if 1 ≤ (wrap64 ((t217.length : Int) - 1)) then (if (wrap64 ((t217.length : Int) - 1)) ≤ (t217.length : Int) then ((some ((t217.take ((wrap64 ((t217.length : Int) - 1)) : Int).toNat).drop 1 : List ByteArray)).bind fun y225 => (impl_GetResp.l0 kj6 l0 t215 t217 (wrap64 ((t217.length : Int) - 1)) y225 (y225.length : Int) 0 t223 ([] : List (S88)) (⟨#[]⟩ : ByteArray))) else (none)) else (none)) = some (r1, r2, r3, r4, r5) := by rw [if_neg (show ¬ (false = true) by decide)] at H; exact H
     clear H
     have H := H1
     clear H1
     by_cases c22 : 1 ≤ (wrap64 ((t217.length : Int) - 1))
     ·rw [if_pos c22] at H
      have c22b0 := eq_true c22
      have c22b1 : decide (1 ≤ (wrap64 ((t217.length : Int) - 1))) = true := decide_eq_true c22
      clear c22
      by_cases c23 : (wrap64 ((t217.length : Int) - 1)) ≤ (t217.length : Int)
      ·rw [if_pos c23] at H
       have c23b0 := eq_true c23
       have c23b1 : decide ((wrap64 ((t217.length : Int) - 1)) ≤ (t217.length : Int)) = true := decide_eq_true c23
       clear c23
       obtain ⟨y225, hy225⟩ : ∃ y_ : List ByteArray, y_ = ((t217.take ((wrap64 ((t217.length : Int) - 1)) : Int).toNat).drop 1) := ⟨_, rfl⟩
       replace H : (impl_GetResp.l0 kj6 l0 t215 t217 (wrap64 ((t217.length : Int) - 1)) y225 (y225.length : Int) 0 t223 ([] : List (S88)) (⟨#[]⟩ : ByteArray)) = some (r1, r2, r3, r4, r5) := by first | (rw [hy225]; with_reducible exact H) | (have H2_ := (Option.bind_some _ _).symm.trans H; rw [hy225]; with_reducible exact H2_) | (have H2_ := (Option.bind_some _ _).symm.trans H; with_reducible exact H2_) | with_reducible exact H | (rw [hy225]; exact H) | exact H
       have Ny225 := Aside0.mk hy225
       clear hy225
       have H' := Aside0.mk H
       clear H
       have q24 : ((wrap64 ((t217.length : Int) - 1)) : Int) ≤ ((t217.length : Int) : Int) := of_decide_eq_true (by first | (with_reducible assumption) | assumption)
       obtain ⟨i024, hi024, _, hsz24, _⟩ := info_parts info9
       have hroom24 : t217.length ≤ co12 := (Kd.R_reads' HO_8.1).2.1
       have hC24 : Kd.C Kd.string _ (some ad221) t217.length t217 := (Kd.R_reads' HO_8.1).2.2
       have ql24 : (1 : Int) ≤ ((wrap64 ((t217.length : Int) - 1)) : Int) := of_decide_eq_true (by first | (with_reducible assumption) | assumption)
       have hcut24 := cut_mid (P := Tryz.prog) 83 9 .i64 .i64 Tryz.underlying83 hi024 1 hsz24 (some ad221) t217.length co12 1 (wrap64 ((t217.length : Int) - 1)) (by omega) ql24 q24 hroom24
       have hr24 := Kd.C_mid (lo := (1 : Int).toNat) (hi := ((wrap64 ((t217.length : Int) - 1)) : Int).toNat) (c := co12) hC24 (by omega) (by omega) hroom24
       obtain ⟨A24, hA24⟩ : ∃ A1, A1 = (if co12 = (1 : Int).toNat then (some ad221) else ((some ad221) : Option Addr).map (·.add ((1 : Int).toNat * 1))) := ⟨_, rfl⟩
       obtain ⟨c24, hc24⟩ : ∃ c1, c1 = co12 - (1 : Int).toNat := ⟨_, rfl⟩
       have hy24 : y225.length = ((wrap64 ((t217.length : Int) - 1)) : Int).toNat - (1 : Int).toNat := (by rw [Ny225.1, List.length_drop, List.length_take] <;> omega)
       rw [show ((t217).take ((wrap64 ((t217.length : Int) - 1)) : Int).toNat).drop (1 : Int).toNat = y225 from Ny225.1.symm] at hr24
       replace hr24 : Kd.C Kd.string _ A24 y225.length y225 := (by rw [hA24]; exact hr24)
       rw [← hy24, ← hA24, ← hc24] at hcut24
       have HR228 := Aside0.mk hr24
       have HC228 := Aside0.mk (show y225.length ≤ c24 from by rw [hy24, hc24]; exact Nat.sub_le_sub_right (Nat.le_trans (by omega) hroom24) _)
       clear hr24 hC24 hroom24 hi024 hsz24 hc24
       have KY24 := Aside0.mk hy24
       have KA24 := Aside0.mk hA24
       clear hy24 hA24
       have KL24 := Aside0.mk (show ((wrap64 ((t217.length : Int) - 1)) : Int).toNat ≤ t217.length from by omega)
       have KM24 := Aside0.mk (show 1 ≤ ((wrap64 ((t217.length : Int) - 1)) : Int).toNat from by omega)
       replace q24 := eq_true q24
       go_wp2
       go_loopg [55] kj6 (fun kq v55 w' => ∃ (x55_2 : Int) (x221001_2 : List (S88)) (u221001 : Value), v55 = .int .i64 x55_2 ∧ Aside0 (impl_GetResp.l0 kq l0 t215 t217 (wrap64 ((t217.length : Int) - 1)) y225 (y225.length : Int) x55_2 t223 x221001_2 (⟨#[]⟩ : ByteArray) = some (r1, r2, r3, r4, r5)) ∧ Aside0 (kq ≤ kj6) ∧ Aside0 (Kd.R Kd.string 9 w' w.heap.size (fun _ => True) (.slice (some ad221) t217.length co12) t217) ∧ Aside0 (Kd.R k88 88 w' w.heap.size (fun _ => True) u221001 x221001_2) ∧ Aside0 (w'.heap[gb213]? = some (.cells #[.int .i64 0, (.slice none 0 0), .string (⟨#[]⟩ : ByteArray)] 25 (0, 0))) ∧ Aside0 (w'.heap[gb220]? = some (.cells #[.int .i64 t223, u221001, .string (⟨#[]⟩ : ByteArray)] 25 (0, 0))) ∧ Aside0 (Kd.C Kd.string w' A24 y225.length y225) ∧ Aside0 (Below w.heap.size w w'))
       case atStart => exact ⟨(0), (([] : List (S88))), (.slice none 0 0), (by first | rfl | (simp; done) | (simp [*]; done) | (simp [empty_ne, *]; done)), H', ⟨Nat.le_refl _⟩, ⟨by (with_reducible repeat (first | apply rA_ | apply rN_ | apply rD_)); first | exact HO_8.1 | exact Kd.R_mono HO_8.1 (fun k_ h_ e_ => h_ (e_.trans (ob_len _ _ _ _ _)))⟩, ⟨by first | exact Kd.R_nil _ _ _ _ _ | exact Kd.N_nil _ _ _ _ _ | exact Kd.V_nil _ _ _ _ _ | exact Kd.Q_nil _ _ _ _ _ | exact Kd.S_nil _ _ _ _ _⟩, ⟨by (with_reducible repeat (first | refine bN_ ?_ _ | refine bD_ ?_ | refine bA_ ?_ _)); exact BK213.1⟩, ⟨by (with_reducible repeat (first | refine bN_ ?_ _ | refine bD_ ?_ | refine bA_ ?_ _)); exact BK220.1⟩, ⟨by repeat (first | (with_reducible exact HR228.1) | (with_reducible refine Kd.C_alloc ?_ _) | (with_reducible refine Kd.C_drewN ?_ _) | (with_reducible refine Kd.C_drew ?_) | exact HR228.1)⟩, ⟨by repeat (first | (with_reducible first | exact HB.1 | apply aB_ | apply pN_ | apply dB_ | refine sB_ ?_ GE213.1 | refine sB_ ?_ GE220.1) | exact HB.1)⟩⟩
       case round =>
        clear H'
        try clear c1
        try clear hcv1
        try clear c2
        try clear p2
        try clear q2
        try clear hx2
        try clear qi2
        try clear c4
        try clear c4b0
        try clear c4b1
        try clear p6
        try clear c7
        try clear hcv9
        try clear hcv10
        try clear c14
        try clear c15
        try clear c17
        try clear c18
        try clear c18b0
        try clear c19
        try clear c20
        try clear c22
        try clear c22b0
        try clear c22b1
        try clear p22
        try clear q22
        try clear hx22
        try clear qi22
        try clear c23
        try clear c23b0
        try clear c23b1
        try clear c24
        try clear q24
        try clear hcz16_0
        try clear hcz16_1
        try clear hcz16_2
        try clear hcz21_0
        try clear hcz21_1
        try clear hcz21_2
        try clear hfz16_0
        try clear hfz16_1
        try clear hfz16_2
        try clear hfz21_0
        try clear hfz21_1
        try clear hfz21_2
        try clear hx221_0
        try clear p2
        try clear p221
        try clear p6
        try clear q2
        try clear q221
        try clear q24
        obtain ⟨x55_2, x221001_2, u221001, rfl, HA, HK2, HO_8, HO_221001, BK213, BK220, HR228, HB⟩ := hrel
        cases gk with
        | zero => exact absurd HA.1 (by simp [impl_GetResp.l0])
        | succ k2 =>
         have H := HA.1
         clear HA
         simp only [impl_GetResp.l0] at H
         by_cases c25 : x55_2 < (y225.length : Int)
         ·rw [if_pos c25] at H
          have c25b0 : decide (x55_2 < (y225.length : Int)) = true := decide_eq_true c25
          clear c25
          by_cases c26 : 0 ≤ x55_2
          ·rw [if_pos c26] at H
           have c26b0 : decide (0 ≤ x55_2) = true := decide_eq_true c26
           clear c26
           by_cases c27 : x55_2 < (y225.length : Int)
           ·rw [if_pos c27] at H
            have c27b0 : decide (x55_2 < (y225.length : Int)) = true := decide_eq_true c27
            clear c27
            replace H := Option.bind_eq_some_iff.mp H
            obtain ⟨⟨t230, t231, t232⟩, A280, H⟩ := H
            replace H : (if x221001_2.length < 4398046511104 then (impl_GetResp.l0 k2 l0 t215 t217 (wrap64 ((t217.length : Int) - 1)) y225 (y225.length : Int) (wrap64 (x55_2 + 1)) t223 (x221001_2 ++ [(⟨t230, t231⟩ : S88)]) (⟨#[]⟩ : ByteArray)) else (none)) = some (r1, r2, r3, r4, r5) := H
            have A28 := Aside0.mk A280
            clear A280
            by_cases c29 : x221001_2.length < 4398046511104
            ·rw [if_pos c29] at H
             have LMc29 := Aside0.mk c29
             clear c29
             obtain ⟨y233, hy233⟩ : ∃ y_ : List (S88), y_ = (x221001_2 ++ [(⟨t230, t231⟩ : S88)]) := ⟨_, rfl⟩
             replace H : (impl_GetResp.l0 k2 l0 t215 t217 (wrap64 ((t217.length : Int) - 1)) y225 (y225.length : Int) (wrap64 (x55_2 + 1)) t223 y233 (⟨#[]⟩ : ByteArray)) = some (r1, r2, r3, r4, r5) := by first | (rw [hy233]; with_reducible exact H) | (have H2_ := (Option.bind_some _ _).symm.trans H; rw [hy233]; with_reducible exact H2_) | (have H2_ := (Option.bind_some _ _).symm.trans H; with_reducible exact H2_) | with_reducible exact H | (rw [hy233]; exact H) | exact H
             have Ny233 := Aside0.mk hy233
             clear hy233
             have H' := Aside0.mk H
             clear H
             have p229 : 0 ≤ (x55_2 : Int) := of_decide_eq_true (by first | (with_reducible assumption) | assumption)
             have q229 : x55_2 < (y225.length : Int) := of_decide_eq_true (by first | (with_reducible assumption) | assumption)
             obtain ⟨ad229, e229, hx229_0⟩ := Kd.at_string (by repeat (first | (with_reducible exact HR228.1) | (with_reducible refine Kd.C_alloc ?_ _) | (with_reducible refine Kd.C_drewN ?_ _) | (with_reducible refine Kd.C_drew ?_) | exact HR228.1)) x55_2 p229 q229
             cases e229
             replace p229 := eq_true p229
             replace q229 := eq_true q229
             go_wp2_with (first | ((with_reducible refine gate_callee (f := 76) rfl ?_); refine goesL_ (some 61) rfl rfl Tryz.func76 (by kernel_rfl) rfl #[.string (rdOf ByteArray.empty y225 x55_2), .string (⟨#[58, 32]⟩ : ByteArray)] rfl (by (try simp only [List.map_toArray, List.map_cons, List.map_nil]); first | done | rfl | (simp only [List.length_drop, List.length_take]; rfl)) ?_; (with_reducible refine (strings_Cut.calls (rdOf ByteArray.empty y225 x55_2) (⟨#[58, 32]⟩ : ByteArray) t230 t231 t232 _ A28.1 ?side99).mono ?_); (case side99 => first | (with_reducible exact hG) | (refine GOK_below hG ?_; (repeat (first | (with_reducible first | exact HB.1 | apply aB_ | apply pN_ | apply dB_ | refine sB_ ?_ GE213.1 | refine sB_ ?_ GE220.1) | exact HB.1)); done) | (refine GOK_drawn hG ?_; (repeat (first | exact Drawn0.refl _ | apply Drawn0.step)); done) | exact hG); rintro e w' ⟨rfl, ⟨nd, rfl⟩⟩; refine ⟨_, rfl, ?_⟩; (try (rw [drewN_self wr]; generalize hq_ : World.drewN wr _ = wr; have n0_ : Aside0 (Kd.R k88 88 wr w.heap.size (fun _ => True) u221001 x221001_2) := ⟨by rw [← hq_]; exact (by (with_reducible repeat (first | apply rA_ | apply rN_ | apply rD_)); exact HO_221001.1)⟩; have n1_ : Aside0 (Kd.R Kd.string 9 wr w.heap.size (fun _ => True) (.slice (some ad221) t217.length co12) t217) := ⟨by rw [← hq_]; exact (by (with_reducible repeat (first | apply rA_ | apply rN_ | apply rD_)); exact HO_8.1)⟩; have n2_ : Aside0 (wr.heap[gb213]? = some (.cells #[.int .i64 0, .slice none 0 0, .string (⟨#[]⟩ : ByteArray)] 25 (0, 0))) := ⟨by rw [← hq_]; exact (by (with_reducible repeat (first | refine bN_ ?_ _ | refine bD_ ?_ | refine bA_ ?_ _)); exact BK213.1)⟩; have n3_ : Aside0 (wr.heap[gb220]? = some (.cells #[.int .i64 t223, u221001, .string (⟨#[]⟩ : ByteArray)] 25 (0, 0))) := ⟨by rw [← hq_]; exact (by (with_reducible repeat (first | refine bN_ ?_ _ | refine bD_ ?_ | refine bA_ ?_ _)); exact BK220.1)⟩; have n4_ : Aside0 (Below w.heap.size w wr) := ⟨by rw [← hq_]; exact (by repeat (first | (with_reducible first | exact HB.1 | apply aB_ | apply pN_ | apply dB_ | refine sB_ ?_ GE213.1 | refine sB_ ?_ GE220.1) | exact HB.1))⟩; clear HO_221001 HO_8 BK213 BK220 HB hq_; have HO_221001 := n0_; have HO_8 := n1_; have BK213 := n2_; have BK220 := n3_; have HB := n4_; clear n0_ n1_ n2_ n3_ n4_)); have hnb30 := NB220_213.1; have hnc30 := NB213_220.1; have hcz31_0 : wr.cell? ⟨gb220, 0, none⟩ = some (.int .i64 t223) := (bc_ BK220.1 0).trans rfl; have hcz31_1 : wr.cell? ⟨gb220, 1, none⟩ = some (u221001) := (bc_ BK220.1 1).trans rfl; have hcz31_2 : wr.cell? ⟨gb220, 2, none⟩ = some (.string (⟨#[]⟩ : ByteArray)) := (bc_ BK220.1 2).trans rfl; have hfz31_0 := bF_ BK220.1 0; have hfz31_1 := bF_ BK220.1 1; have hfz31_2 := bF_ BK220.1 2) | ((with_reducible refine gate_builtin (b := .append) (xs := #[.tmp 66, .tmp 70]) rfl ?_); (try (refine gate_guard (by rfl) ?_; dsimp only)); at_builtin; refine Kd.R_append k88 (w0 := w) w.heap.size rfl (.tmp 66) (.tmp 70) 23 88 (.agg #[(.string ⟨#[]⟩), (.string ⟨#[]⟩)]) 32 rfl Tryz.underlying23 info88 rfl (by decide) (by omega) u221001 x221001_2 (⟨t230, t231⟩ : S88) [.string t230, .string t231] (fun _ => True) (fun _ => False) rfl rfl ?aP (fun _ hk => hk.elim) ?aF ?aO ?aB ?aS ?aL ?_; (case aP => exact k88_mkM _ _ _ (⟨t230, t231⟩ : S88)); (case aB => exact (by repeat (first | (with_reducible first | exact HB.1 | apply aB_ | apply pN_ | apply dB_ | refine sB_ ?_ GE213.1 | refine sB_ ?_ GE220.1) | exact HB.1))); (case aF => exact (fun _ _ => trivial)); (case aO => exact (by (with_reducible repeat (first | apply rA_ | apply rN_ | apply rD_)); exact HO_221001.1)); (case aS => exact (below_size (by repeat (first | (with_reducible first | exact HB.1 | apply aB_ | apply pN_ | apply dB_ | refine sB_ ?_ GE213.1 | refine sB_ ?_ GE220.1) | exact HB.1)))); (case aL => have := LMc29.1; omega); intro v234 w32 ho hb hg hat; rw [← Ny233.1] at ho; have n0_ := Aside0.mk (Kd.R_over' (by (with_reducible repeat (first | apply rA_ | apply rN_ | apply rD_)); exact HO_8.1) (Kd.R_typed (by (with_reducible repeat (first | apply rA_ | apply rN_ | apply rD_)); exact HO_221001.1)) (by decide) hg); have n1_ := Aside0.mk (blk_grown (g := gb213) (o := .cells #[.int .i64 0, .slice none 0 0, .string (⟨#[]⟩ : ByteArray)] 25 (0, 0)) (by (with_reducible repeat (first | refine bN_ ?_ _ | refine bD_ ?_ | refine bA_ ?_ _)); exact BK213.1) hg (Kd.R_ne HO_221001.1 BK213.1 (by decide))); have n2_ := Aside0.mk (blk_grown (g := gb220) (o := .cells #[.int .i64 t223, u221001, .string (⟨#[]⟩ : ByteArray)] 25 (0, 0)) (by (with_reducible repeat (first | refine bN_ ?_ _ | refine bD_ ?_ | refine bA_ ?_ _)); exact BK220.1) hg (Kd.R_ne HO_221001.1 BK220.1 (by decide))); have n3_ := Aside0.mk (hb); have n4_ := Aside0.mk ((show Kd.C Kd.string w32 (some ad229) y225.length y225 from by rw [Ny225.1, KA24.1]; exact Kd.C_mid (lo := 1) (hi := ((wrap64 ((t217.length : Int) - 1)) : Int).toNat) (c := co12) ((Kd.R_reads' (Kd.R_over' (by (with_reducible repeat (first | apply rA_ | apply rN_ | apply rD_)); exact HO_8.1) (Kd.R_typed (by (with_reducible repeat (first | apply rA_ | apply rN_ | apply rD_)); exact HO_221001.1)) (by decide) hg)).2.2) KM24.1 KL24.1 ((Kd.R_reads' (Kd.R_over' (by (with_reducible repeat (first | apply rA_ | apply rN_ | apply rD_)); exact HO_8.1) (Kd.R_typed (by (with_reducible repeat (first | apply rA_ | apply rN_ | apply rD_)); exact HO_221001.1)) (by decide) hg)).2.1))); have n5_ := Aside0.mk (ho); clear HO_8 BK213; clear BK220 HB; clear HR228 HO_221001; have HO_8 := n0_; have BK213 := n1_; have BK220 := n2_; have HB := n3_; have HR228 := n4_; have HO235 := n5_; clear n0_ n1_ n2_ n3_ n4_ n5_; clear ho hb hg hat; obtain ⟨Ao33, co33, eo33⟩ := Kd.R_slice HO235.1; subst eo33; have hcz34_0 : w32.cell? ⟨gb220, 0, none⟩ = some (.int .i64 t223) := (bc_ BK220.1 0).trans rfl; have hcz34_1 : w32.cell? ⟨gb220, 1, none⟩ = some (u221001) := (bc_ BK220.1 1).trans rfl; have hcz34_2 : w32.cell? ⟨gb220, 2, none⟩ = some (.string (⟨#[]⟩ : ByteArray)) := (bc_ BK220.1 2).trans rfl; have hfz34_0 := bF_ BK220.1 0; have hfz34_1 := bF_ BK220.1 1; have hfz34_2 := bF_ BK220.1 2))
             go_roundg k2
             case measure => have := HJ6.1; have := HK2.1; omega
             case rel => exact ⟨(wrap64 (x55_2 + 1)), (y233), (.slice Ao33 y233.length co33), (by first | rfl | (simp; done) | (simp [*]; done) | (simp [empty_ne, *]; done)), H', ⟨by have := HJ6.1; have := HK2.1; omega⟩, ⟨by (with_reducible repeat (first | apply rA_ | apply rN_ | apply rD_)); exact Kd.R_mono (rF_ (p := ⟨gb220, 1, none⟩) (Kd.R_types HO_8.1 BK220.1 (by decide)) (fun _ hk => hk.2) (.slice Ao33 y233.length co33)) (fun _ hk => trivial)⟩, ⟨by (with_reducible repeat (first | apply rA_ | apply rN_ | apply rD_)); exact Kd.R_mono (rF_ (p := ⟨gb220, 1, none⟩) (Kd.R_types HO235.1 BK220.1 (by decide)) (fun _ hk => hk.2) (.slice Ao33 y233.length co33)) (fun _ hk => trivial)⟩, ⟨by (with_reducible repeat (first | refine bN_ ?_ _ | refine bD_ ?_ | refine bA_ ?_ _)); refine blk_far ?_ NB213_220.1 _; (with_reducible repeat (first | refine bN_ ?_ _ | refine bD_ ?_ | refine bA_ ?_ _)); exact BK213.1⟩, ⟨by (with_reducible repeat (first | refine bN_ ?_ _ | refine bD_ ?_ | refine bA_ ?_ _)); refine blk_put (cs := #[.int .i64 t223, u221001, .string (⟨#[]⟩ : ByteArray)]) ?_ 1 _ rfl; (with_reducible repeat (first | refine bN_ ?_ _ | refine bD_ ?_ | refine bA_ ?_ _)); exact BK220.1⟩, ⟨(by rw [Ny225.1, KA24.1]; exact Kd.C_mid (lo := 1) (hi := ((wrap64 ((t217.length : Int) - 1)) : Int).toNat) (c := co12) ((Kd.R_reads' (by (with_reducible repeat (first | apply rA_ | apply rN_ | apply rD_)); exact (Kd.R_mono (rF_ (p := ⟨gb220, 1, none⟩) (Kd.R_types HO_8.1 BK220.1 (by decide)) (fun _ hk => hk.2) (.slice Ao33 y233.length co33)) (fun _ h_ => h_.1)))).2.2) KM24.1 KL24.1 ((Kd.R_reads' HO_8.1).2.1))⟩, ⟨by repeat (first | (with_reducible first | exact HB.1 | apply aB_ | apply pN_ | apply dB_ | refine sB_ ?_ GE213.1 | refine sB_ ?_ GE220.1) | exact HB.1)⟩⟩
            ·rw [if_neg c29] at H
             exact absurd H (by simp)
           ·rw [if_neg c27] at H
            exact absurd H (by simp)
          ·rw [if_neg c26] at H
           exact absurd H (by simp)
         ·rw [if_neg c25] at H
          have c25b0 : decide (x55_2 < (y225.length : Int)) = false := decide_eq_false c25
          clear c25
          obtain ⟨ji35, hji35⟩ : ∃ j_ : Int, (wrap64 ((t217.length : Int) - 1)) = j_ := ⟨_, rfl⟩
          replace H : (if 0 ≤ (ji35) then (if (ji35) < (t217.length : Int) then ((strings_TrimPrefix.f (rdOf ByteArray.empty t217 (ji35)) (⟨#[99, 111, 110, 116, 101, 110, 116, 45, 108, 101, 110, 103, 116, 104, 58, 32]⟩ : ByteArray)).bind fun t237 => ((impl_ParseNum.f t237 400).bind fun bt238 => (if bt238.2 = true then (impl_GetResp.j2 k2 l0 t215 bt238.1 (decide (bt238.1 > (t215.size : Int))) t223 x221001_2 (⟨#[]⟩ : ByteArray)) else (impl_GetResp.j2 k2 l0 t215 bt238.1 true t223 x221001_2 (⟨#[]⟩ : ByteArray))))) else (none)) else (none)) = some (r1, r2, r3, r4, r5) := by first | (rw [hji35] at H; exact H) | (simp only [hji35] at H ⊢; exact H)
          (try rw [hji35] at c22b0)
          (try rw [hji35] at c22b1)
          (try rw [hji35] at c23b0)
          (try rw [hji35] at c23b1)
          have hji35w : (IntKind.i64.wrap ((t217.length : Int) - 1)) = ji35 := (i64_w _).trans hji35
          by_cases c36 : 0 ≤ (ji35)
          ·rw [if_pos c36] at H
           have c36b0 : decide (0 ≤ (ji35)) = true := decide_eq_true c36
           clear c36
           by_cases c37 : (ji35) < (t217.length : Int)
           ·rw [if_pos c37] at H
            have c37b0 : decide ((ji35) < (t217.length : Int)) = true := decide_eq_true c37
            clear c37
            replace H := Option.bind_eq_some_iff.mp H
            obtain ⟨t237, A380, H⟩ := H
            replace H : ((impl_ParseNum.f t237 400).bind fun bt238 => (if bt238.2 = true then (impl_GetResp.j2 k2 l0 t215 bt238.1 (decide (bt238.1 > (t215.size : Int))) t223 x221001_2 (⟨#[]⟩ : ByteArray)) else (impl_GetResp.j2 k2 l0 t215 bt238.1 true t223 x221001_2 (⟨#[]⟩ : ByteArray)))) = some (r1, r2, r3, r4, r5) := H
            have A38 := Aside0.mk A380
            clear A380
            replace H := Option.bind_eq_some_iff.mp H
            obtain ⟨⟨t238, t239⟩, A390, H⟩ := H
            replace H : (if t239 = true then (impl_GetResp.j2 k2 l0 t215 t238 (decide (t238 > (t215.size : Int))) t223 x221001_2 (⟨#[]⟩ : ByteArray)) else (impl_GetResp.j2 k2 l0 t215 t238 true t223 x221001_2 (⟨#[]⟩ : ByteArray))) = some (r1, r2, r3, r4, r5) := H
            have A39 := Aside0.mk A390
            clear A390
            have HC40 := Aside0.mk H
            clear H
            have p236 : 0 ≤ ((ji35) : Int) := of_decide_eq_true (by first | (with_reducible assumption) | assumption)
            have q236 : (ji35) < (t217.length : Int) := of_decide_eq_true (by first | (with_reducible assumption) | assumption)
            obtain ⟨ad236, e236, hx236_0⟩ := Kd.at_string (Kd.R_reads' HO_8.1).2.2 (ji35) p236 q236
            obtain rfl : ad221 = ad236 := (by injection e236)
            replace p236 := eq_true p236
            replace q236 := eq_true q236
            go_upto_region 15 with (first | ((with_reducible refine gate_callee (f := 79) rfl ?_); refine goesL_ (some 79) rfl rfl Tryz.func79 (by kernel_rfl) rfl #[.string (rdOf ByteArray.empty t217 (ji35)), .string (⟨#[99, 111, 110, 116, 101, 110, 116, 45, 108, 101, 110, 103, 116, 104, 58, 32]⟩ : ByteArray)] rfl (by (try simp only [List.map_toArray, List.map_cons, List.map_nil]); first | done | (simp only [hji35]; rfl) | rfl | (simp only [List.length_drop, List.length_take]; rfl)) ?_; (with_reducible refine (strings_TrimPrefix.calls (rdOf ByteArray.empty t217 (ji35)) (⟨#[99, 111, 110, 116, 101, 110, 116, 45, 108, 101, 110, 103, 116, 104, 58, 32]⟩ : ByteArray) t237 _ A38.1).mono ?_); rintro e w' ⟨rfl, ⟨nd, rfl⟩⟩; refine ⟨_, rfl, ?_⟩) | ((with_reducible refine gate_callee (f := 78) rfl ?_); refine goesL_ (some 80) rfl rfl Tryz.func78 (by kernel_rfl) rfl #[.string t237, .int .i64 400] rfl (by (try simp only [List.map_toArray, List.map_cons, List.map_nil]); first | done | rfl | (simp only [List.length_drop, List.length_take]; rfl)) ?_; (with_reducible refine (impl_ParseNum.calls t237 400 t238 t239 _ A39.1 ?side99).mono ?_); (case side99 => first | (with_reducible exact hG) | (refine GOK_below hG ?_; (repeat (first | (with_reducible first | exact HB.1 | apply aB_ | apply pN_ | apply dB_ | refine sB_ ?_ GE213.1 | refine sB_ ?_ GE220.1) | exact HB.1)); done) | (refine GOK_drawn hG ?_; (repeat (first | exact Drawn0.refl _ | apply Drawn0.step)); done) | exact hG); rintro e w41 ⟨rfl, hb⟩; refine ⟨_, rfl, ?_⟩; have n0_ := Aside0.mk (Kd.R_below (by (with_reducible repeat (first | apply rA_ | apply rN_ | apply rD_)); exact HO_8.1) hb); have n1_ := Aside0.mk (Kd.R_below (by (with_reducible repeat (first | apply rA_ | apply rN_ | apply rD_)); exact HO_221001.1) hb); have n2_ := Aside0.mk (bB_ (g := gb213) (o := .cells #[.int .i64 0, .slice none 0 0, .string (⟨#[]⟩ : ByteArray)] 25 (0, 0)) (by (with_reducible repeat (first | refine bN_ ?_ _ | refine bD_ ?_ | refine bA_ ?_ _)); exact BK213.1) hb); have n3_ := Aside0.mk (bB_ (g := gb220) (o := .cells #[.int .i64 t223, u221001, .string (⟨#[]⟩ : ByteArray)] 25 (0, 0)) (by (with_reducible repeat (first | refine bN_ ?_ _ | refine bD_ ?_ | refine bA_ ?_ _)); exact BK220.1) hb); have n4_ := Aside0.mk (Kd.C_below (by repeat (first | (with_reducible exact HR228.1) | (with_reducible refine Kd.C_alloc ?_ _) | (with_reducible refine Kd.C_drewN ?_ _) | (with_reducible refine Kd.C_drew ?_) | exact HR228.1)) hb); have n5_ := Aside0.mk (below_step (by repeat (first | (with_reducible first | exact HB.1 | apply aB_ | apply pN_ | apply dB_ | refine sB_ ?_ GE213.1 | refine sB_ ?_ GE220.1) | exact HB.1)) hb); clear HO_8 HO_221001; clear BK213 BK220; clear HR228 HB; have HO_8 := n0_; have HO_221001 := n1_; have BK213 := n2_; have BK220 := n3_; have HR228 := n4_; have HB := n5_; clear n0_ n1_ n2_ n3_ n4_ n5_; (try clear hb); (try clear hb2); (try clear hk); (try clear hi)))
            (try simp only [Act.put, List.setIfInBounds_toArray, List.set_cons_zero, List.set_cons_succ])
            go_cut [90] (fun v90 wc => ∃ (kq : Nat) (x90_39 : Bool), v90 = .bool x90_39 ∧ Aside0 (impl_GetResp.j2 kq l0 t215 t238 x90_39 t223 x221001_2 (⟨#[]⟩ : ByteArray) = some (r1, r2, r3, r4, r5)) ∧ Aside0 (kq ≤ k2) ∧ Aside0 (Kd.R k88 88 wc w.heap.size (fun _ => True) u221001 x221001_2) ∧ Aside0 (wc.heap[gb213]? = some (.cells #[.int .i64 0, (.slice none 0 0), .string (⟨#[]⟩ : ByteArray)] 25 (0, 0))) ∧ Aside0 (wc.heap[gb220]? = some (.cells #[.int .i64 t223, u221001, .string (⟨#[]⟩ : ByteArray)] 25 (0, 0))) ∧ Aside0 (Below w.heap.size w wc))
            case first =>
             have H := HC40.1
             clear HC40
             by_cases c42 : t239 = true
             ·subst c42
              have H1 : (impl_GetResp.j2 k2 l0 t215 t238 (decide (t238 > (t215.size : Int))) t223 x221001_2 (⟨#[]⟩ : ByteArray)) = some (r1, r2, r3, r4, r5) := by rw [if_pos rfl] at H; exact H
              clear H
              have H := H1
              clear H1
              have H' := Aside0.mk H
              clear H
              go_wp2
              go_meet
              case rel => exact ⟨_, (decide (t238 > (t215.size : Int))), (by first | rfl | (simp; done) | (simp [*]; done) | (simp [empty_ne, *]; done)), H', ⟨by have := HJ6.1; have := HK2.1; first | omega | exact Nat.le_refl _⟩, ⟨by (with_reducible repeat (first | apply rA_ | apply rN_ | apply rD_)); first | exact HO_221001.1 | exact Kd.R_mono HO_221001.1 (fun k_ h_ e_ => h_ (e_.trans (ob_len _ _ _ _ _)))⟩, ⟨by (with_reducible repeat (first | refine bN_ ?_ _ | refine bD_ ?_ | refine bA_ ?_ _)); exact BK213.1⟩, ⟨by (with_reducible repeat (first | refine bN_ ?_ _ | refine bD_ ?_ | refine bA_ ?_ _)); exact BK220.1⟩, ⟨by repeat (first | (with_reducible first | exact HB.1 | apply aB_ | apply pN_ | apply dB_ | refine sB_ ?_ GE213.1 | refine sB_ ?_ GE220.1) | exact HB.1)⟩⟩
             ·replace c42 := Bool.eq_false_iff.mpr c42
              subst c42
              have H1 : (impl_GetResp.j2 k2 l0 t215 t238 true t223 x221001_2 (⟨#[]⟩ : ByteArray)) = some (r1, r2, r3, r4, r5) := by rw [if_neg (show ¬ (false = true) by decide)] at H; exact H
              clear H
              have H := H1
              clear H1
              have H' := Aside0.mk H
              clear H
              go_wp2
              go_meet
              case rel => exact ⟨_, (true), (by first | rfl | (simp; done) | (simp [*]; done) | (simp [empty_ne, *]; done)), H', ⟨by have := HJ6.1; have := HK2.1; first | omega | exact Nat.le_refl _⟩, ⟨by (with_reducible repeat (first | apply rA_ | apply rN_ | apply rD_)); first | exact HO_221001.1 | exact Kd.R_mono HO_221001.1 (fun k_ h_ e_ => h_ (e_.trans (ob_len _ _ _ _ _)))⟩, ⟨by (with_reducible repeat (first | refine bN_ ?_ _ | refine bD_ ?_ | refine bA_ ?_ _)); exact BK213.1⟩, ⟨by (with_reducible repeat (first | refine bN_ ?_ _ | refine bD_ ?_ | refine bA_ ?_ _)); exact BK220.1⟩, ⟨by repeat (first | (with_reducible first | exact HB.1 | apply aB_ | apply pN_ | apply dB_ | refine sB_ ?_ GE213.1 | refine sB_ ?_ GE220.1) | exact HB.1)⟩⟩
            case rest =>
             clear HC40
             try clear c1
             try clear hcv1
             try clear c2
             try clear p2
             try clear q2
             try clear hx2
             try clear qi2
             try clear c3
             try clear c4
             try clear c4b0
             try clear c4b1
             try clear p6
             try clear c7
             try clear hcv9
             try clear hcv10
             try clear c14
             try clear c15
             try clear c17
             try clear c18
             try clear c18b0
             try clear c19
             try clear c20
             try clear c22
             try clear c22b0
             try clear c22b1
             try clear p22
             try clear q22
             try clear hx22
             try clear qi22
             try clear c23
             try clear c23b0
             try clear c23b1
             try clear p23
             try clear q23
             try clear hx23
             try clear c24
             try clear q24
             try clear c25
             try clear c25b0
             try clear c26
             try clear c26b0
             try clear c27
             try clear c27b0
             try clear c29
             try clear c30
             try clear c36
             try clear c36b0
             try clear c37
             try clear c37b0
             try clear c42
             try clear hcz16_0
             try clear hcz16_1
             try clear hcz16_2
             try clear hcz21_0
             try clear hcz21_1
             try clear hcz21_2
             try clear hcz31_0
             try clear hcz31_1
             try clear hcz31_2
             try clear hcz34_0
             try clear hcz34_1
             try clear hcz34_2
             try clear hfz16_0
             try clear hfz16_1
             try clear hfz16_2
             try clear hfz21_0
             try clear hfz21_1
             try clear hfz21_2
             try clear hfz31_0
             try clear hfz31_1
             try clear hfz31_2
             try clear hfz34_0
             try clear hfz34_1
             try clear hfz34_2
             try clear hx221_0
             try clear hx229_0
             try clear hx236_0
             try clear p2
             try clear p22
             try clear p221
             try clear p229
             try clear p236
             try clear p6
             try clear q2
             try clear q22
             try clear q221
             try clear q229
             try clear q236
             try clear q24
             obtain ⟨kq, x90_39, rfl, HA, HJ39, HO_221001, BK213, BK220, HB⟩ := hcut
             cases kq with
             | zero => exact absurd HA.1 (by simp [impl_GetResp.j2])
             | succ kj39 =>
              have H := HA.1
              clear HA
              simp only [impl_GetResp.j2] at H
              by_cases c43 : x90_39 = true
              ·subst c43
               have H1 : (some (0, ([] : List (S88)), (⟨#[]⟩ : ByteArray), 0, false)) = some (r1, r2, r3, r4, r5) := by rw [if_pos rfl] at H; exact H
               clear H
               have H := H1
               clear H1
               simp only [Option.some.injEq, Prod.mk.injEq] at H
               obtain ⟨rfl, rfl, rfl, rfl, rfl⟩ := H
               have hnb44 := NB213_220.1
               have hnc44 := NB220_213.1
               have hcz45_0 : wc.cell? ⟨gb213, 0, none⟩ = some (.int .i64 0) := (bc_ BK213.1 0).trans rfl
               have hcz45_1 : wc.cell? ⟨gb213, 1, none⟩ = some (.slice none 0 0) := (bc_ BK213.1 1).trans rfl
               have hcz45_2 : wc.cell? ⟨gb213, 2, none⟩ = some (.string (⟨#[]⟩ : ByteArray)) := (bc_ BK213.1 2).trans rfl
               have hfz45_0 := bF_ BK213.1 0
               have hfz45_1 := bF_ BK213.1 1
               have hfz45_2 := bF_ BK213.1 2
               go_wp2
               refine bodyPost_ret (results_ctt rfl _ _ gb213 25 #[.int .i64 0, .slice none 0 0, .string (⟨#[]⟩ : ByteArray)] (0, 0) _ rfl (by (with_reducible repeat (first | refine bN_ ?_ _ | refine bD_ ?_ | refine bA_ ?_ _)); refine blk_put (cs := #[.int .i64 0, .slice none 0 0, .string (⟨#[]⟩ : ByteArray)]) ?_ 2 _ rfl; (with_reducible repeat (first | refine bN_ ?_ _ | refine bD_ ?_ | refine bA_ ?_ _)); refine blk_put (cs := #[.int .i64 0, .slice none 0 0, .string (⟨#[]⟩ : ByteArray)]) ?_ 1 _ rfl; (with_reducible repeat (first | refine bN_ ?_ _ | refine bD_ ?_ | refine bA_ ?_ _)); refine blk_put (cs := #[.int .i64 0, .slice none 0 0, .string (⟨#[]⟩ : ByteArray)]) ?_ 0 _ rfl; (with_reducible repeat (first | refine bN_ ?_ _ | refine bD_ ?_ | refine bA_ ?_ _)); exact BK213.1) Tryz.underlying25 rfl (by kernel_rfl)) rfl ?_
               exact ⟨_, by first | rfl | (simp [errW_none, errW_some] <;> rfl) | (simp only [← hji35]; first | rfl | (simp [errW_none, errW_some] <;> rfl)) | (simp [*, errW_none, errW_some] <;> rfl), by first | exact Kd.R_nil _ _ _ _ _ | exact Kd.N_nil _ _ _ _ _ | exact Kd.V_nil _ _ _ _ _ | exact Kd.Q_nil _ _ _ _ _ | exact Kd.S_nil _ _ _ _ _, by repeat (first | (with_reducible first | exact HB.1 | apply aB_ | apply pN_ | apply dB_ | refine sB_ ?_ GE213.1 | refine sB_ ?_ GE220.1) | exact HB.1)⟩
              ·replace c43 := Bool.eq_false_iff.mpr c43
               subst c43
               have H1 : (if 0 ≤ t238 then (if t238 ≤ (t215.size : Int) then ((impl_PutResp.f kj39 t223 x221001_2 (t215.extract 0 (t238 : Int).toNat)).bind fun t240 => (if (t240.length : Int) = 0 then (some (0, ([] : List (S88)), (⟨#[]⟩ : ByteArray), 0, false)) else ((strings_HasPrefix.f (strOfNums l0) (strOfNums t240)).bind fun t243 => (if t243 = true then (some (t223, x221001_2, t215.extract 0 (t238 : Int).toNat, (t240.length : Int), true)) else (some (0, ([] : List (S88)), (⟨#[]⟩ : ByteArray), 0, false)))))) else (none)) else (none)) = some (r1, r2, r3, r4, r5) := by rw [if_neg (show ¬ (false = true) by decide)] at H; exact H
               clear H
               have H := H1
               clear H1
               by_cases c46 : 0 ≤ t238
               ·rw [if_pos c46] at H
                have c46b0 := eq_true c46
                have c46b1 : decide (0 ≤ t238) = true := decide_eq_true c46
                clear c46
                by_cases c47 : t238 ≤ (t215.size : Int)
                ·rw [if_pos c47] at H
                 have c47b0 := eq_true c47
                 have c47b1 : decide (t238 ≤ (t215.size : Int)) = true := decide_eq_true c47
                 clear c47
                 replace H := Option.bind_eq_some_iff.mp H
                 obtain ⟨t240, A480, H⟩ := H
                 replace H : (if (t240.length : Int) = 0 then (some (0, ([] : List (S88)), (⟨#[]⟩ : ByteArray), 0, false)) else ((strings_HasPrefix.f (strOfNums l0) (strOfNums t240)).bind fun t243 => (if t243 = true then (some (t223, x221001_2, t215.extract 0 (t238 : Int).toNat, (t240.length : Int), true)) else (some (0, ([] : List (S88)), (⟨#[]⟩ : ByteArray), 0, false))))) = some (r1, r2, r3, r4, r5) := H
                 have A48 := Aside0.mk A480
                 clear A480
                 by_cases c49 : (t240.length : Int) = 0
                 ·rw [if_pos c49] at H
                  have c49b0 : ((t240.length : Int) == 0) = true := beq_iff_eq.mpr c49
                  have c49b1 : ((t240.length : Int) != 0) = false := bne_eq_false_iff_eq.mpr c49
                  clear c49
                  simp only [Option.some.injEq, Prod.mk.injEq] at H
                  obtain ⟨rfl, rfl, rfl, rfl, rfl⟩ := H
                  have hnb50 := NB220_213.1
                  have hnc50 := NB213_220.1
                  have hcz51_0 : wc.cell? ⟨gb220, 0, none⟩ = some (.int .i64 t223) := (bc_ BK220.1 0).trans rfl
                  have hcz51_1 : wc.cell? ⟨gb220, 1, none⟩ = some (u221001) := (bc_ BK220.1 1).trans rfl
                  have hcz51_2 : wc.cell? ⟨gb220, 2, none⟩ = some (.string (⟨#[]⟩ : ByteArray)) := (bc_ BK220.1 2).trans rfl
                  have hfz51_0 := bF_ BK220.1 0
                  have hfz51_1 := bF_ BK220.1 1
                  have hfz51_2 := bF_ BK220.1 2
                  obtain ⟨Ao52, co52, eo52⟩ := Kd.R_slice HO_221001.1
                  subst eo52
                  go_wp2_with (first | ((with_reducible refine gate_callee (f := 22) rfl ?_); refine goesL_ (some 97) rfl rfl Tryz.func22 (by kernel_rfl) rfl #[.agg #[.int .i64 t223, .slice Ao52 x221001_2.length co52, .string (t215.extract 0 (t238 : Int).toNat)]] rfl (by (try simp only [List.map_toArray, List.map_cons, List.map_nil]); first | done | rfl | (simp only [List.length_drop, List.length_take]; rfl)) ?_; (with_reducible refine (impl_PutResp.calls kj39 t223 _ _ x221001_2 (t215.extract 0 (t238 : Int).toNat) t240 _ ?side1 ?side2 A48.1 ?side99).mono ?_); (case side1 => refine (Kd.R_reads' (e := 88) (base := w.heap.size) (ok := fun k_ => True) (n := x221001_2.length) (c := co52) ?_).2.2; exact (by (with_reducible repeat (first | apply rA_ | apply rN_ | apply rD_)); exact (Kd.R_mono (rF_ (p := ⟨gb220, 2, none⟩) (Kd.R_types HO_221001.1 BK220.1 (by decide)) (fun _ hk => hk.2) (.string (t215.extract 0 (t238 : Int).toNat))) (fun _ h_ => h_.1)))); (case side2 => exact (Kd.R_reads' HO_221001.1).2.1); (case side99 => first | (with_reducible exact hG) | (refine GOK_below hG ?_; (repeat (first | (with_reducible first | exact HB.1 | apply aB_ | apply pN_ | apply dB_ | refine sB_ ?_ GE213.1 | refine sB_ ?_ GE220.1) | exact HB.1)); done) | (refine GOK_drawn hG ?_; (repeat (first | exact Drawn0.refl _ | apply Drawn0.step)); done) | exact hG); rintro e w53 ⟨v241, rfl, ho0, hb⟩; refine ⟨_, rfl, ?_⟩; have n0_ := Aside0.mk (Kd.R_below (by (with_reducible repeat (first | apply rA_ | apply rN_ | apply rD_)); exact (Kd.R_mono (rF_ (p := ⟨gb220, 2, none⟩) (Kd.R_types HO_221001.1 BK220.1 (by decide)) (fun _ hk => hk.2) (.string (t215.extract 0 (t238 : Int).toNat))) (fun _ h_ => h_.1))) hb); have n1_ := Aside0.mk (Kd.R_lower ho0 (below_size (by repeat (first | (with_reducible first | exact HB.1 | apply aB_ | apply pN_ | apply dB_ | refine sB_ ?_ GE213.1 | refine sB_ ?_ GE220.1) | exact HB.1)))); have n2_ := Aside0.mk (bB_ (g := gb213) (o := .cells #[.int .i64 0, .slice none 0 0, .string (⟨#[]⟩ : ByteArray)] 25 (0, 0)) (by (with_reducible repeat (first | refine bN_ ?_ _ | refine bD_ ?_ | refine bA_ ?_ _)); refine blk_far ?_ NB213_220.1 _; (with_reducible repeat (first | refine bN_ ?_ _ | refine bD_ ?_ | refine bA_ ?_ _)); exact BK213.1) hb); have n3_ := Aside0.mk (bB_ (g := gb220) (o := .cells #[.int .i64 t223, .slice Ao52 x221001_2.length co52, .string (t215.extract 0 (t238 : Int).toNat)] 25 (0, 0)) (by (with_reducible repeat (first | refine bN_ ?_ _ | refine bD_ ?_ | refine bA_ ?_ _)); refine blk_put (cs := #[.int .i64 t223, .slice Ao52 x221001_2.length co52, .string (⟨#[]⟩ : ByteArray)]) ?_ 2 _ rfl; (with_reducible repeat (first | refine bN_ ?_ _ | refine bD_ ?_ | refine bA_ ?_ _)); exact BK220.1) hb); have n4_ := Aside0.mk (below_step (by repeat (first | (with_reducible first | exact HB.1 | apply aB_ | apply pN_ | apply dB_ | refine sB_ ?_ GE213.1 | refine sB_ ?_ GE220.1) | exact HB.1)) hb); clear HO_221001 BK213; clear BK220 HB; have HO_221001 := n0_; have HO242 := n1_; have BK213 := n2_; have BK220 := n3_; have HB := n4_; clear n0_ n1_ n2_ n3_ n4_; (try clear hb); (try clear hb2); (try clear hk); (try clear hi); (try clear ho0); obtain ⟨Ao54, co54, eo54⟩ := Kd.R_slice HO242.1; subst eo54; have hcz55_0 : w53.cell? ⟨gb213, 0, none⟩ = some (.int .i64 0) := (bc_ BK213.1 0).trans rfl; have hcz55_1 : w53.cell? ⟨gb213, 1, none⟩ = some (.slice none 0 0) := (bc_ BK213.1 1).trans rfl; have hcz55_2 : w53.cell? ⟨gb213, 2, none⟩ = some (.string (⟨#[]⟩ : ByteArray)) := (bc_ BK213.1 2).trans rfl; have hfz55_0 := bF_ BK213.1 0; have hfz55_1 := bF_ BK213.1 1; have hfz55_2 := bF_ BK213.1 2))
                  refine bodyPost_ret (results_ctt rfl _ _ gb213 25 #[.int .i64 0, .slice none 0 0, .string (⟨#[]⟩ : ByteArray)] (0, 0) _ rfl (by (with_reducible repeat (first | refine bN_ ?_ _ | refine bD_ ?_ | refine bA_ ?_ _)); refine blk_put (cs := #[.int .i64 0, .slice none 0 0, .string (⟨#[]⟩ : ByteArray)]) ?_ 2 _ rfl; (with_reducible repeat (first | refine bN_ ?_ _ | refine bD_ ?_ | refine bA_ ?_ _)); refine blk_put (cs := #[.int .i64 0, .slice none 0 0, .string (⟨#[]⟩ : ByteArray)]) ?_ 1 _ rfl; (with_reducible repeat (first | refine bN_ ?_ _ | refine bD_ ?_ | refine bA_ ?_ _)); refine blk_put (cs := #[.int .i64 0, .slice none 0 0, .string (⟨#[]⟩ : ByteArray)]) ?_ 0 _ rfl; (with_reducible repeat (first | refine bN_ ?_ _ | refine bD_ ?_ | refine bA_ ?_ _)); exact BK213.1) Tryz.underlying25 rfl (by kernel_rfl)) rfl ?_
                  exact ⟨_, by first | rfl | (simp [errW_none, errW_some] <;> rfl) | (simp only [← hji35]; first | rfl | (simp [errW_none, errW_some] <;> rfl)) | (simp [*, errW_none, errW_some] <;> rfl), by first | exact Kd.R_nil _ _ _ _ _ | exact Kd.N_nil _ _ _ _ _ | exact Kd.V_nil _ _ _ _ _ | exact Kd.Q_nil _ _ _ _ _ | exact Kd.S_nil _ _ _ _ _, by repeat (first | (with_reducible first | exact HB.1 | apply aB_ | apply pN_ | apply dB_ | refine sB_ ?_ GE213.1 | refine sB_ ?_ GE220.1) | exact HB.1)⟩
                 ·rw [if_neg c49] at H
                  have c49b0 : ((t240.length : Int) == 0) = false := beq_eq_false_iff_ne.mpr c49
                  have c49b1 : ((t240.length : Int) != 0) = true := bne_iff_ne.mpr c49
                  have c49b2 : ¬ (t240 = []) := fun h_ => c49 (by rw [h_]; rfl)
                  replace H := Option.bind_eq_some_iff.mp H
                  obtain ⟨t243, A560, H⟩ := H
                  replace H : (if t243 = true then (some (t223, x221001_2, t215.extract 0 (t238 : Int).toNat, (t240.length : Int), true)) else (some (0, ([] : List (S88)), (⟨#[]⟩ : ByteArray), 0, false))) = some (r1, r2, r3, r4, r5) := H
                  have A56 := Aside0.mk A560
                  clear A560
                  by_cases c57 : t243 = true
                  ·subst c57
                   have H1 : (some (t223, x221001_2, t215.extract 0 (t238 : Int).toNat, (t240.length : Int), true)) = some (r1, r2, r3, r4, r5) := by rw [if_pos rfl] at H; exact H
                   clear H
                   have H := H1
                   clear H1
                   simp only [Option.some.injEq, Prod.mk.injEq] at H
                   obtain ⟨rfl, rfl, rfl, rfl, rfl⟩ := H
                   have hnb58 := NB220_213.1
                   have hnc58 := NB213_220.1
                   have hcz59_0 : wc.cell? ⟨gb220, 0, none⟩ = some (.int .i64 t223) := (bc_ BK220.1 0).trans rfl
                   have hcz59_1 : wc.cell? ⟨gb220, 1, none⟩ = some (u221001) := (bc_ BK220.1 1).trans rfl
                   have hcz59_2 : wc.cell? ⟨gb220, 2, none⟩ = some (.string (⟨#[]⟩ : ByteArray)) := (bc_ BK220.1 2).trans rfl
                   have hfz59_0 := bF_ BK220.1 0
                   have hfz59_1 := bF_ BK220.1 1
                   have hfz59_2 := bF_ BK220.1 2
                   obtain ⟨Ao60, co60, eo60⟩ := Kd.R_slice HO_221001.1
                   subst eo60
                   go_wp2_with (first | ((with_reducible refine gate_callee (f := 22) rfl ?_); refine goesL_ (some 97) rfl rfl Tryz.func22 (by kernel_rfl) rfl #[.agg #[.int .i64 t223, .slice Ao60 x221001_2.length co60, .string (t215.extract 0 (t238 : Int).toNat)]] rfl (by (try simp only [List.map_toArray, List.map_cons, List.map_nil]); first | done | rfl | (simp only [List.length_drop, List.length_take]; rfl)) ?_; (with_reducible refine (impl_PutResp.calls kj39 t223 _ _ x221001_2 (t215.extract 0 (t238 : Int).toNat) t240 _ ?side1 ?side2 A48.1 ?side99).mono ?_); (case side1 => refine (Kd.R_reads' (e := 88) (base := w.heap.size) (ok := fun k_ => True) (n := x221001_2.length) (c := co60) ?_).2.2; exact (by (with_reducible repeat (first | apply rA_ | apply rN_ | apply rD_)); exact (Kd.R_mono (rF_ (p := ⟨gb220, 2, none⟩) (Kd.R_types HO_221001.1 BK220.1 (by decide)) (fun _ hk => hk.2) (.string (t215.extract 0 (t238 : Int).toNat))) (fun _ h_ => h_.1)))); (case side2 => exact (Kd.R_reads' HO_221001.1).2.1); (case side99 => first | (with_reducible exact hG) | (refine GOK_below hG ?_; (repeat (first | (with_reducible first | exact HB.1 | apply aB_ | apply pN_ | apply dB_ | refine sB_ ?_ GE213.1 | refine sB_ ?_ GE220.1) | exact HB.1)); done) | (refine GOK_drawn hG ?_; (repeat (first | exact Drawn0.refl _ | apply Drawn0.step)); done) | exact hG); rintro e w61 ⟨v241, rfl, ho0, hb⟩; refine ⟨_, rfl, ?_⟩; have n0_ := Aside0.mk (Kd.R_below (by (with_reducible repeat (first | apply rA_ | apply rN_ | apply rD_)); exact (Kd.R_mono (rF_ (p := ⟨gb220, 2, none⟩) (Kd.R_types HO_221001.1 BK220.1 (by decide)) (fun _ hk => hk.2) (.string (t215.extract 0 (t238 : Int).toNat))) (fun _ h_ => h_.1))) hb); have n1_ := Aside0.mk (Kd.R_lower ho0 (below_size (by repeat (first | (with_reducible first | exact HB.1 | apply aB_ | apply pN_ | apply dB_ | refine sB_ ?_ GE213.1 | refine sB_ ?_ GE220.1) | exact HB.1)))); have n2_ := Aside0.mk (bB_ (g := gb213) (o := .cells #[.int .i64 0, .slice none 0 0, .string (⟨#[]⟩ : ByteArray)] 25 (0, 0)) (by (with_reducible repeat (first | refine bN_ ?_ _ | refine bD_ ?_ | refine bA_ ?_ _)); refine blk_far ?_ NB213_220.1 _; (with_reducible repeat (first | refine bN_ ?_ _ | refine bD_ ?_ | refine bA_ ?_ _)); exact BK213.1) hb); have n3_ := Aside0.mk (bB_ (g := gb220) (o := .cells #[.int .i64 t223, .slice Ao60 x221001_2.length co60, .string (t215.extract 0 (t238 : Int).toNat)] 25 (0, 0)) (by (with_reducible repeat (first | refine bN_ ?_ _ | refine bD_ ?_ | refine bA_ ?_ _)); refine blk_put (cs := #[.int .i64 t223, .slice Ao60 x221001_2.length co60, .string (⟨#[]⟩ : ByteArray)]) ?_ 2 _ rfl; (with_reducible repeat (first | refine bN_ ?_ _ | refine bD_ ?_ | refine bA_ ?_ _)); exact BK220.1) hb); have n4_ := Aside0.mk (below_step (by repeat (first | (with_reducible first | exact HB.1 | apply aB_ | apply pN_ | apply dB_ | refine sB_ ?_ GE213.1 | refine sB_ ?_ GE220.1) | exact HB.1)) hb); clear HO_221001 BK213; clear BK220 HB; have HO_221001 := n0_; have HO242 := n1_; have BK213 := n2_; have BK220 := n3_; have HB := n4_; clear n0_ n1_ n2_ n3_ n4_; (try clear hb); (try clear hb2); (try clear hk); (try clear hi); (try clear ho0); obtain ⟨Ao62, co62, eo62⟩ := Kd.R_slice HO242.1; subst eo62; have hcv63 := Kd.C_string (P := Tryz.prog) (A := A0) (c := c0) Tryz.underlying22 Tryz.underlying5 Tryz.underlying9 (Kd.C_below HR0.1 HB.1); have hcv64 := fun nq_ : Nat => Kd.C_string (P := Tryz.prog) (A := A0) (c := c0) Tryz.underlying22 Tryz.underlying5 Tryz.underlying9 (Kd.C_drewN (Kd.C_below HR0.1 HB.1) nq_); have hcv65 := own_string (P := Tryz.prog) Tryz.underlying22 Tryz.underlying5 Tryz.underlying9 (Kd.own_of_R HO242.1)) | (go_at_call 80; (with_reducible refine (strings_HasPrefix.calls (strOfNums l0) (strOfNums t240) true _ A56.1).mono ?_); rintro e w' ⟨rfl, ⟨nd, rfl⟩⟩; (try (rw [drewN_self w61]; generalize hq_ : World.drewN w61 _ = w61; have n0_ : Aside0 (Kd.R (Kd.int .u8) 5 w61 w.heap.size (fun _ => True) (.slice Ao62 t240.length co62) t240) := ⟨by rw [← hq_]; exact (by (with_reducible repeat (first | apply rA_ | apply rN_ | apply rD_)); exact HO242.1)⟩; have n1_ : Aside0 (Kd.R k88 88 w61 w.heap.size (fun _ => True) (.slice Ao60 x221001_2.length co60) x221001_2) := ⟨by rw [← hq_]; exact (by (with_reducible repeat (first | apply rA_ | apply rN_ | apply rD_)); exact HO_221001.1)⟩; have n2_ : Aside0 (w61.heap[gb213]? = some (.cells #[.int .i64 0, .slice none 0 0, .string (⟨#[]⟩ : ByteArray)] 25 (0, 0))) := ⟨by rw [← hq_]; exact (by (with_reducible repeat (first | refine bN_ ?_ _ | refine bD_ ?_ | refine bA_ ?_ _)); exact BK213.1)⟩; have n3_ : Aside0 (w61.heap[gb220]? = some (.cells #[.int .i64 t223, .slice Ao60 x221001_2.length co60, .string (t215.extract 0 (t238 : Int).toNat)] 25 (0, 0))) := ⟨by rw [← hq_]; exact (by (with_reducible repeat (first | refine bN_ ?_ _ | refine bD_ ?_ | refine bA_ ?_ _)); exact BK220.1)⟩; have n4_ : Aside0 (Below w.heap.size w w61) := ⟨by rw [← hq_]; exact (by repeat (first | (with_reducible first | exact HB.1 | apply aB_ | apply pN_ | apply dB_ | refine sB_ ?_ GE213.1 | refine sB_ ?_ GE220.1) | exact HB.1))⟩; clear HO242 HO_221001 BK213 BK220 HB hq_; have HO242 := n0_; have HO_221001 := n1_; have BK213 := n2_; have BK220 := n3_; have HB := n4_; clear n0_ n1_ n2_ n3_ n4_)); have hcz66_0 : w61.cell? ⟨gb220, 0, none⟩ = some (.int .i64 t223) := (bc_ BK220.1 0).trans rfl; have hcz66_1 : w61.cell? ⟨gb220, 1, none⟩ = some (.slice Ao60 x221001_2.length co60) := (bc_ BK220.1 1).trans rfl; have hcz66_2 : w61.cell? ⟨gb220, 2, none⟩ = some (.string (t215.extract 0 (t238 : Int).toNat)) := (bc_ BK220.1 2).trans rfl; have hfz66_0 := bF_ BK220.1 0; have hfz66_1 := bF_ BK220.1 1; have hfz66_2 := bF_ BK220.1 2; have hcz67_0 : w61.cell? ⟨gb213, 0, none⟩ = some (.int .i64 0) := (bc_ BK213.1 0).trans rfl; have hcz67_1 : w61.cell? ⟨gb213, 1, none⟩ = some (.slice none 0 0) := (bc_ BK213.1 1).trans rfl; have hcz67_2 : w61.cell? ⟨gb213, 2, none⟩ = some (.string (⟨#[]⟩ : ByteArray)) := (bc_ BK213.1 2).trans rfl; have hfz67_0 := bF_ BK213.1 0; have hfz67_1 := bF_ BK213.1 1; have hfz67_2 := bF_ BK213.1 2))
                   refine bodyPost_ret (results_ctt rfl _ _ gb213 25 #[.int .i64 t223, .slice Ao60 x221001_2.length co60, .string (t215.extract 0 (t238 : Int).toNat)] (0, 0) _ rfl (by (with_reducible repeat (first | refine bN_ ?_ _ | refine bD_ ?_ | refine bA_ ?_ _)); refine blk_put (cs := #[.int .i64 t223, .slice Ao60 x221001_2.length co60, .string (⟨#[]⟩ : ByteArray)]) ?_ 2 _ rfl; (with_reducible repeat (first | refine bN_ ?_ _ | refine bD_ ?_ | refine bA_ ?_ _)); refine blk_put (cs := #[.int .i64 t223, .slice none 0 0, .string (⟨#[]⟩ : ByteArray)]) ?_ 1 _ rfl; (with_reducible repeat (first | refine bN_ ?_ _ | refine bD_ ?_ | refine bA_ ?_ _)); refine blk_put (cs := #[.int .i64 0, .slice none 0 0, .string (⟨#[]⟩ : ByteArray)]) ?_ 0 _ rfl; (with_reducible repeat (first | refine bN_ ?_ _ | refine bD_ ?_ | refine bA_ ?_ _)); exact BK213.1) Tryz.underlying25 rfl (by kernel_rfl)) rfl ?_
                   exact ⟨_, by first | rfl | (simp [errW_none, errW_some] <;> rfl) | (simp only [← hji35]; first | rfl | (simp [errW_none, errW_some] <;> rfl)) | (simp [*, errW_none, errW_some] <;> rfl), by (with_reducible repeat (first | apply rA_ | apply rN_ | apply rD_)); exact Kd.R_mono (rF_ (p := ⟨gb213, 2, none⟩) (rF_ (p := ⟨gb213, 1, none⟩) (rF_ (p := ⟨gb213, 0, none⟩) (Kd.R_types HO_221001.1 BK213.1 (by decide)) (fun _ hk => hk.2) (.int .i64 t223)) (fun _ hk => hk.2) (.slice Ao60 x221001_2.length co60)) (fun _ hk => hk.2) (.string (t215.extract 0 (t238 : Int).toNat))) (fun _ hk => trivial), by repeat (first | (with_reducible first | exact HB.1 | apply aB_ | apply pN_ | apply dB_ | refine sB_ ?_ GE213.1 | refine sB_ ?_ GE220.1) | exact HB.1)⟩
                  ·replace c57 := Bool.eq_false_iff.mpr c57
                   subst c57
                   have H1 : (some (0, ([] : List (S88)), (⟨#[]⟩ : ByteArray), 0, false)) = some (r1, r2, r3, r4, r5) := by rw [if_neg (show ¬ (false = true) by decide)] at H; exact H
                   clear H
                   have H := H1
                   clear H1
                   simp only [Option.some.injEq, Prod.mk.injEq] at H
                   obtain ⟨rfl, rfl, rfl, rfl, rfl⟩ := H
                   have hnb68 := NB220_213.1
                   have hnc68 := NB213_220.1
                   have hcz69_0 : wc.cell? ⟨gb220, 0, none⟩ = some (.int .i64 t223) := (bc_ BK220.1 0).trans rfl
                   have hcz69_1 : wc.cell? ⟨gb220, 1, none⟩ = some (u221001) := (bc_ BK220.1 1).trans rfl
                   have hcz69_2 : wc.cell? ⟨gb220, 2, none⟩ = some (.string (⟨#[]⟩ : ByteArray)) := (bc_ BK220.1 2).trans rfl
                   have hfz69_0 := bF_ BK220.1 0
                   have hfz69_1 := bF_ BK220.1 1
                   have hfz69_2 := bF_ BK220.1 2
                   obtain ⟨Ao70, co70, eo70⟩ := Kd.R_slice HO_221001.1
                   subst eo70
                   go_wp2_with (first | ((with_reducible refine gate_callee (f := 22) rfl ?_); refine goesL_ (some 97) rfl rfl Tryz.func22 (by kernel_rfl) rfl #[.agg #[.int .i64 t223, .slice Ao70 x221001_2.length co70, .string (t215.extract 0 (t238 : Int).toNat)]] rfl (by (try simp only [List.map_toArray, List.map_cons, List.map_nil]); first | done | rfl | (simp only [List.length_drop, List.length_take]; rfl)) ?_; (with_reducible refine (impl_PutResp.calls kj39 t223 _ _ x221001_2 (t215.extract 0 (t238 : Int).toNat) t240 _ ?side1 ?side2 A48.1 ?side99).mono ?_); (case side1 => refine (Kd.R_reads' (e := 88) (base := w.heap.size) (ok := fun k_ => True) (n := x221001_2.length) (c := co70) ?_).2.2; exact (by (with_reducible repeat (first | apply rA_ | apply rN_ | apply rD_)); exact (Kd.R_mono (rF_ (p := ⟨gb220, 2, none⟩) (Kd.R_types HO_221001.1 BK220.1 (by decide)) (fun _ hk => hk.2) (.string (t215.extract 0 (t238 : Int).toNat))) (fun _ h_ => h_.1)))); (case side2 => exact (Kd.R_reads' HO_221001.1).2.1); (case side99 => first | (with_reducible exact hG) | (refine GOK_below hG ?_; (repeat (first | (with_reducible first | exact HB.1 | apply aB_ | apply pN_ | apply dB_ | refine sB_ ?_ GE213.1 | refine sB_ ?_ GE220.1) | exact HB.1)); done) | (refine GOK_drawn hG ?_; (repeat (first | exact Drawn0.refl _ | apply Drawn0.step)); done) | exact hG); rintro e w71 ⟨v241, rfl, ho0, hb⟩; refine ⟨_, rfl, ?_⟩; have n0_ := Aside0.mk (Kd.R_below (by (with_reducible repeat (first | apply rA_ | apply rN_ | apply rD_)); exact (Kd.R_mono (rF_ (p := ⟨gb220, 2, none⟩) (Kd.R_types HO_221001.1 BK220.1 (by decide)) (fun _ hk => hk.2) (.string (t215.extract 0 (t238 : Int).toNat))) (fun _ h_ => h_.1))) hb); have n1_ := Aside0.mk (Kd.R_lower ho0 (below_size (by repeat (first | (with_reducible first | exact HB.1 | apply aB_ | apply pN_ | apply dB_ | refine sB_ ?_ GE213.1 | refine sB_ ?_ GE220.1) | exact HB.1)))); have n2_ := Aside0.mk (bB_ (g := gb213) (o := .cells #[.int .i64 0, .slice none 0 0, .string (⟨#[]⟩ : ByteArray)] 25 (0, 0)) (by (with_reducible repeat (first | refine bN_ ?_ _ | refine bD_ ?_ | refine bA_ ?_ _)); refine blk_far ?_ NB213_220.1 _; (with_reducible repeat (first | refine bN_ ?_ _ | refine bD_ ?_ | refine bA_ ?_ _)); exact BK213.1) hb); have n3_ := Aside0.mk (bB_ (g := gb220) (o := .cells #[.int .i64 t223, .slice Ao70 x221001_2.length co70, .string (t215.extract 0 (t238 : Int).toNat)] 25 (0, 0)) (by (with_reducible repeat (first | refine bN_ ?_ _ | refine bD_ ?_ | refine bA_ ?_ _)); refine blk_put (cs := #[.int .i64 t223, .slice Ao70 x221001_2.length co70, .string (⟨#[]⟩ : ByteArray)]) ?_ 2 _ rfl; (with_reducible repeat (first | refine bN_ ?_ _ | refine bD_ ?_ | refine bA_ ?_ _)); exact BK220.1) hb); have n4_ := Aside0.mk (below_step (by repeat (first | (with_reducible first | exact HB.1 | apply aB_ | apply pN_ | apply dB_ | refine sB_ ?_ GE213.1 | refine sB_ ?_ GE220.1) | exact HB.1)) hb); clear HO_221001 BK213; clear BK220 HB; have HO_221001 := n0_; have HO242 := n1_; have BK213 := n2_; have BK220 := n3_; have HB := n4_; clear n0_ n1_ n2_ n3_ n4_; (try clear hb); (try clear hb2); (try clear hk); (try clear hi); (try clear ho0); obtain ⟨Ao72, co72, eo72⟩ := Kd.R_slice HO242.1; subst eo72; have hcv73 := Kd.C_string (P := Tryz.prog) (A := A0) (c := c0) Tryz.underlying22 Tryz.underlying5 Tryz.underlying9 (Kd.C_below HR0.1 HB.1); have hcv74 := fun nq_ : Nat => Kd.C_string (P := Tryz.prog) (A := A0) (c := c0) Tryz.underlying22 Tryz.underlying5 Tryz.underlying9 (Kd.C_drewN (Kd.C_below HR0.1 HB.1) nq_); have hcv75 := own_string (P := Tryz.prog) Tryz.underlying22 Tryz.underlying5 Tryz.underlying9 (Kd.own_of_R HO242.1)) | (go_at_call 80; (with_reducible refine (strings_HasPrefix.calls (strOfNums l0) (strOfNums t240) false _ A56.1).mono ?_); rintro e w' ⟨rfl, ⟨nd, rfl⟩⟩; (try (rw [drewN_self w71]; generalize hq_ : World.drewN w71 _ = w71; have n0_ : Aside0 (Kd.R (Kd.int .u8) 5 w71 w.heap.size (fun _ => True) (.slice Ao72 t240.length co72) t240) := ⟨by rw [← hq_]; exact (by (with_reducible repeat (first | apply rA_ | apply rN_ | apply rD_)); exact HO242.1)⟩; have n1_ : Aside0 (Kd.R k88 88 w71 w.heap.size (fun _ => True) (.slice Ao70 x221001_2.length co70) x221001_2) := ⟨by rw [← hq_]; exact (by (with_reducible repeat (first | apply rA_ | apply rN_ | apply rD_)); exact HO_221001.1)⟩; have n2_ : Aside0 (w71.heap[gb213]? = some (.cells #[.int .i64 0, .slice none 0 0, .string (⟨#[]⟩ : ByteArray)] 25 (0, 0))) := ⟨by rw [← hq_]; exact (by (with_reducible repeat (first | refine bN_ ?_ _ | refine bD_ ?_ | refine bA_ ?_ _)); exact BK213.1)⟩; have n3_ : Aside0 (w71.heap[gb220]? = some (.cells #[.int .i64 t223, .slice Ao70 x221001_2.length co70, .string (t215.extract 0 (t238 : Int).toNat)] 25 (0, 0))) := ⟨by rw [← hq_]; exact (by (with_reducible repeat (first | refine bN_ ?_ _ | refine bD_ ?_ | refine bA_ ?_ _)); exact BK220.1)⟩; have n4_ : Aside0 (Below w.heap.size w w71) := ⟨by rw [← hq_]; exact (by repeat (first | (with_reducible first | exact HB.1 | apply aB_ | apply pN_ | apply dB_ | refine sB_ ?_ GE213.1 | refine sB_ ?_ GE220.1) | exact HB.1))⟩; clear HO242 HO_221001 BK213 BK220 HB hq_; have HO242 := n0_; have HO_221001 := n1_; have BK213 := n2_; have BK220 := n3_; have HB := n4_; clear n0_ n1_ n2_ n3_ n4_)); have hcz76_0 : w71.cell? ⟨gb213, 0, none⟩ = some (.int .i64 0) := (bc_ BK213.1 0).trans rfl; have hcz76_1 : w71.cell? ⟨gb213, 1, none⟩ = some (.slice none 0 0) := (bc_ BK213.1 1).trans rfl; have hcz76_2 : w71.cell? ⟨gb213, 2, none⟩ = some (.string (⟨#[]⟩ : ByteArray)) := (bc_ BK213.1 2).trans rfl; have hfz76_0 := bF_ BK213.1 0; have hfz76_1 := bF_ BK213.1 1; have hfz76_2 := bF_ BK213.1 2))
                   refine bodyPost_ret (results_ctt rfl _ _ gb213 25 #[.int .i64 0, .slice none 0 0, .string (⟨#[]⟩ : ByteArray)] (0, 0) _ rfl (by (with_reducible repeat (first | refine bN_ ?_ _ | refine bD_ ?_ | refine bA_ ?_ _)); refine blk_put (cs := #[.int .i64 0, .slice none 0 0, .string (⟨#[]⟩ : ByteArray)]) ?_ 2 _ rfl; (with_reducible repeat (first | refine bN_ ?_ _ | refine bD_ ?_ | refine bA_ ?_ _)); refine blk_put (cs := #[.int .i64 0, .slice none 0 0, .string (⟨#[]⟩ : ByteArray)]) ?_ 1 _ rfl; (with_reducible repeat (first | refine bN_ ?_ _ | refine bD_ ?_ | refine bA_ ?_ _)); refine blk_put (cs := #[.int .i64 0, .slice none 0 0, .string (⟨#[]⟩ : ByteArray)]) ?_ 0 _ rfl; (with_reducible repeat (first | refine bN_ ?_ _ | refine bD_ ?_ | refine bA_ ?_ _)); exact BK213.1) Tryz.underlying25 rfl (by kernel_rfl)) rfl ?_
                   exact ⟨_, by first | rfl | (simp [errW_none, errW_some] <;> rfl) | (simp only [← hji35]; first | rfl | (simp [errW_none, errW_some] <;> rfl)) | (simp [*, errW_none, errW_some] <;> rfl), by first | exact Kd.R_nil _ _ _ _ _ | exact Kd.N_nil _ _ _ _ _ | exact Kd.V_nil _ _ _ _ _ | exact Kd.Q_nil _ _ _ _ _ | exact Kd.S_nil _ _ _ _ _, by repeat (first | (with_reducible first | exact HB.1 | apply aB_ | apply pN_ | apply dB_ | refine sB_ ?_ GE213.1 | refine sB_ ?_ GE220.1) | exact HB.1)⟩
                ·rw [if_neg c47] at H
                 exact absurd H (by simp)
               ·rw [if_neg c46] at H
                exact absurd H (by simp)
           ·rw [if_neg c37] at H
            exact absurd H (by simp)
          ·rw [if_neg c36] at H
           exact absurd H (by simp)
      ·rw [if_neg c23] at H
       exact absurd H (by simp)
     ·rw [if_neg c22] at H
      exact absurd H (by simp)
 ·rw [if_neg c4] at H
  exact absurd H (by simp)

def laws_eqHead.f (a0_0 : ByteArray) (a0_1 : ByteArray) (a1_0 : ByteArray) (a1_1 : ByteArray) : Option (Bool) := if a0_0.toList = a1_0.toList then (if a0_1.toList = a1_1.toList then (some true) else (some false)) else (some false)
theorem laws_eqHead.calls (a0_0 : ByteArray) (a0_1 : ByteArray) (a1_0 : ByteArray) (a1_1 : ByteArray) (r : Bool) (w : World) (h : laws_eqHead.f a0_0 a0_1 a1_0 a1_1 = some r) :
  Calls Tryz.prog 134 #[.agg #[.string a0_0, .string a0_1], .agg #[.string a1_0, .string a1_1]] w fun e w' => e = .returned (.bool r) ∧ Below w.heap.size w w' := by
 have hu88 := Tryz.underlying88
 have HB := Aside0.mk (Below.refl w.heap.size w)
 have H : (if a0_0.toList = a1_0.toList then (if a0_1.toList = a1_1.toList then (some true) else (some false)) else (some false)) = some r := h
 clear h
 by_cases c3 : a0_0.toList = a1_0.toList
 ·rw [if_pos c3] at H
  have c3b0 : (a0_0.toList == a1_0.toList) = true := beq_iff_eq.mpr c3
  have c3b1 : (a0_0.toList != a1_0.toList) = false := bne_eq_false_iff_eq.mpr c3
  clear c3
  by_cases c4 : a0_1.toList = a1_1.toList
  ·rw [if_pos c4] at H
   have c4b0 : (a0_1.toList == a1_1.toList) = true := beq_iff_eq.mpr c4
   have c4b1 : (a0_1.toList != a1_1.toList) = false := bne_eq_false_iff_eq.mpr c4
   clear c4
   obtain rfl := Option.some.inj H
   go_enter Tryz.func134, Tryz.ntmps134
   go_wp2_with (first | ((with_reducible refine gate_dst (N := 2) rfl ?_); refine box_event ?hg (N := 2) ?hd (cs := #[.string a0_0, .string a0_1]) (t := 88) ?hr ?_; (case hd => rfl); (case hg => rfl); (case hr => first | (go_simp; done) | (go_simp; rfl)); intro gb244 hg w5 hbox hb; have n0_ := Aside0.mk (below_step (by repeat (first | (with_reducible first | exact HB.1 | apply aB_ | apply pN_ | apply dB_) | exact HB.1)) hb); have n1_ := Aside0.mk (hbox); have n2_ := Aside0.mk ((by rw [hg]; exact (below_size (by repeat (first | (with_reducible first | exact HB.1 | apply aB_ | apply pN_ | apply dB_) | exact HB.1))) : w.heap.size ≤ gb244)); have n3_ := Aside0.mk ((by rw [hg]; exact (below_size (by repeat (first | (with_reducible first | exact HB.1 | apply aB_ | apply pN_ | apply dB_) | exact HB.1))) : w.heap.size ≤ gb244)); clear HB; have HB := n0_; have BK244 := n1_; have GW244 := n2_; have GE244 := n3_; clear n0_ n1_ n2_ n3_; clear hb hbox hg) | ((with_reducible refine gate_dst (N := 3) rfl ?_); refine box_event ?hg (N := 3) ?hd (cs := #[.string a1_0, .string a1_1]) (t := 88) ?hr ?_; (case hd => rfl); (case hg => rfl); (case hr => first | (go_simp; done) | (go_simp; rfl)); intro gb245 hg w6 hbox hb; have n0_ := Aside0.mk (bB_ (g := gb244) (o := .cells #[.string a0_0, .string a0_1] 88 (0, 0)) (by (with_reducible repeat (first | refine bN_ ?_ _ | refine bD_ ?_ | refine bA_ ?_ _)); exact BK244.1) hb); have n1_ := Aside0.mk (below_step (by repeat (first | (with_reducible first | exact HB.1 | apply aB_ | apply pN_ | apply dB_ | refine sB_ ?_ GE244.1) | exact HB.1)) hb); have n2_ := Aside0.mk (hbox); have n3_ := Aside0.mk ((by rw [hg]; exact (below_size (by repeat (first | (with_reducible first | exact HB.1 | apply aB_ | apply pN_ | apply dB_ | refine sB_ ?_ GE244.1) | exact HB.1))) : w.heap.size ≤ gb245)); have n4_ := Aside0.mk ((by rw [hg]; exact (below_size (by repeat (first | (with_reducible first | exact HB.1 | apply aB_ | apply pN_ | apply dB_ | refine sB_ ?_ GE244.1) | exact HB.1))) : w.heap.size ≤ gb245)); have n5_ := Aside0.mk ((by rw [hg]; exact Nat.ne_of_lt (blk_lt (g := gb244) (o := .cells #[.string a0_0, .string a0_1] 88 (0, 0)) (by (with_reducible repeat (first | refine bN_ ?_ _ | refine bD_ ?_ | refine bA_ ?_ _)); exact BK244.1)) : gb244 ≠ gb245)); have n6_ := Aside0.mk ((by rw [hg]; exact Nat.ne_of_gt (blk_lt (g := gb244) (o := .cells #[.string a0_0, .string a0_1] 88 (0, 0)) (by (with_reducible repeat (first | refine bN_ ?_ _ | refine bD_ ?_ | refine bA_ ?_ _)); exact BK244.1)) : gb245 ≠ gb244)); clear BK244 HB; have BK244 := n0_; have HB := n1_; have BK245 := n2_; have GW245 := n3_; have GE245 := n4_; have NB244_245 := n5_; have NB245_244 := n6_; clear n0_ n1_ n2_ n3_ n4_ n5_ n6_; clear hb hbox hg; have hnb7 := NB244_245.1; have hnc7 := NB245_244.1; have hcz8_0 : w6.cell? ⟨gb244, 0, none⟩ = some (.string a0_0) := (bc_ BK244.1 0).trans rfl; have hcz8_1 : w6.cell? ⟨gb244, 1, none⟩ = some (.string a0_1) := (bc_ BK244.1 1).trans rfl; have hfz8_0 := bF_ BK244.1 0; have hfz8_1 := bF_ BK244.1 1; have hcz9_0 : w6.cell? ⟨gb245, 0, none⟩ = some (.string a1_0) := (bc_ BK245.1 0).trans rfl; have hcz9_1 : w6.cell? ⟨gb245, 1, none⟩ = some (.string a1_1) := (bc_ BK245.1 1).trans rfl; have hfz9_0 := bF_ BK245.1 0; have hfz9_1 := bF_ BK245.1 1))
   go_ret
   exact ⟨by first | rfl | (simp [errW_none, errW_some] <;> rfl) | (simp [*, errW_none, errW_some] <;> rfl), by repeat (first | (with_reducible first | exact HB.1 | apply aB_ | apply pN_ | apply dB_ | refine sB_ ?_ GE244.1 | refine sB_ ?_ GE245.1) | exact HB.1)⟩
  ·rw [if_neg c4] at H
   have c4b0 : (a0_1.toList == a1_1.toList) = false := beq_eq_false_iff_ne.mpr c4
   have c4b1 : (a0_1.toList != a1_1.toList) = true := bne_iff_ne.mpr c4
   obtain rfl := Option.some.inj H
   go_enter Tryz.func134, Tryz.ntmps134
   go_wp2_with (first | ((with_reducible refine gate_dst (N := 2) rfl ?_); refine box_event ?hg (N := 2) ?hd (cs := #[.string a0_0, .string a0_1]) (t := 88) ?hr ?_; (case hd => rfl); (case hg => rfl); (case hr => first | (go_simp; done) | (go_simp; rfl)); intro gb244 hg w10 hbox hb; have n0_ := Aside0.mk (below_step (by repeat (first | (with_reducible first | exact HB.1 | apply aB_ | apply pN_ | apply dB_) | exact HB.1)) hb); have n1_ := Aside0.mk (hbox); have n2_ := Aside0.mk ((by rw [hg]; exact (below_size (by repeat (first | (with_reducible first | exact HB.1 | apply aB_ | apply pN_ | apply dB_) | exact HB.1))) : w.heap.size ≤ gb244)); have n3_ := Aside0.mk ((by rw [hg]; exact (below_size (by repeat (first | (with_reducible first | exact HB.1 | apply aB_ | apply pN_ | apply dB_) | exact HB.1))) : w.heap.size ≤ gb244)); clear HB; have HB := n0_; have BK244 := n1_; have GW244 := n2_; have GE244 := n3_; clear n0_ n1_ n2_ n3_; clear hb hbox hg) | ((with_reducible refine gate_dst (N := 3) rfl ?_); refine box_event ?hg (N := 3) ?hd (cs := #[.string a1_0, .string a1_1]) (t := 88) ?hr ?_; (case hd => rfl); (case hg => rfl); (case hr => first | (go_simp; done) | (go_simp; rfl)); intro gb245 hg w11 hbox hb; have n0_ := Aside0.mk (bB_ (g := gb244) (o := .cells #[.string a0_0, .string a0_1] 88 (0, 0)) (by (with_reducible repeat (first | refine bN_ ?_ _ | refine bD_ ?_ | refine bA_ ?_ _)); exact BK244.1) hb); have n1_ := Aside0.mk (below_step (by repeat (first | (with_reducible first | exact HB.1 | apply aB_ | apply pN_ | apply dB_ | refine sB_ ?_ GE244.1) | exact HB.1)) hb); have n2_ := Aside0.mk (hbox); have n3_ := Aside0.mk ((by rw [hg]; exact (below_size (by repeat (first | (with_reducible first | exact HB.1 | apply aB_ | apply pN_ | apply dB_ | refine sB_ ?_ GE244.1) | exact HB.1))) : w.heap.size ≤ gb245)); have n4_ := Aside0.mk ((by rw [hg]; exact (below_size (by repeat (first | (with_reducible first | exact HB.1 | apply aB_ | apply pN_ | apply dB_ | refine sB_ ?_ GE244.1) | exact HB.1))) : w.heap.size ≤ gb245)); have n5_ := Aside0.mk ((by rw [hg]; exact Nat.ne_of_lt (blk_lt (g := gb244) (o := .cells #[.string a0_0, .string a0_1] 88 (0, 0)) (by (with_reducible repeat (first | refine bN_ ?_ _ | refine bD_ ?_ | refine bA_ ?_ _)); exact BK244.1)) : gb244 ≠ gb245)); have n6_ := Aside0.mk ((by rw [hg]; exact Nat.ne_of_gt (blk_lt (g := gb244) (o := .cells #[.string a0_0, .string a0_1] 88 (0, 0)) (by (with_reducible repeat (first | refine bN_ ?_ _ | refine bD_ ?_ | refine bA_ ?_ _)); exact BK244.1)) : gb245 ≠ gb244)); clear BK244 HB; have BK244 := n0_; have HB := n1_; have BK245 := n2_; have GW245 := n3_; have GE245 := n4_; have NB244_245 := n5_; have NB245_244 := n6_; clear n0_ n1_ n2_ n3_ n4_ n5_ n6_; clear hb hbox hg; have hnb12 := NB244_245.1; have hnc12 := NB245_244.1; have hcz13_0 : w11.cell? ⟨gb244, 0, none⟩ = some (.string a0_0) := (bc_ BK244.1 0).trans rfl; have hcz13_1 : w11.cell? ⟨gb244, 1, none⟩ = some (.string a0_1) := (bc_ BK244.1 1).trans rfl; have hfz13_0 := bF_ BK244.1 0; have hfz13_1 := bF_ BK244.1 1; have hcz14_0 : w11.cell? ⟨gb245, 0, none⟩ = some (.string a1_0) := (bc_ BK245.1 0).trans rfl; have hcz14_1 : w11.cell? ⟨gb245, 1, none⟩ = some (.string a1_1) := (bc_ BK245.1 1).trans rfl; have hfz14_0 := bF_ BK245.1 0; have hfz14_1 := bF_ BK245.1 1))
   go_ret
   exact ⟨by first | rfl | (simp [errW_none, errW_some] <;> rfl) | (simp [*, errW_none, errW_some] <;> rfl), by repeat (first | (with_reducible first | exact HB.1 | apply aB_ | apply pN_ | apply dB_ | refine sB_ ?_ GE244.1 | refine sB_ ?_ GE245.1) | exact HB.1)⟩
 ·rw [if_neg c3] at H
  have c3b0 : (a0_0.toList == a1_0.toList) = false := beq_eq_false_iff_ne.mpr c3
  have c3b1 : (a0_0.toList != a1_0.toList) = true := bne_iff_ne.mpr c3
  obtain rfl := Option.some.inj H
  go_enter Tryz.func134, Tryz.ntmps134
  go_wp2_with (first | ((with_reducible refine gate_dst (N := 2) rfl ?_); refine box_event ?hg (N := 2) ?hd (cs := #[.string a0_0, .string a0_1]) (t := 88) ?hr ?_; (case hd => rfl); (case hg => rfl); (case hr => first | (go_simp; done) | (go_simp; rfl)); intro gb244 hg w15 hbox hb; have n0_ := Aside0.mk (below_step (by repeat (first | (with_reducible first | exact HB.1 | apply aB_ | apply pN_ | apply dB_) | exact HB.1)) hb); have n1_ := Aside0.mk (hbox); have n2_ := Aside0.mk ((by rw [hg]; exact (below_size (by repeat (first | (with_reducible first | exact HB.1 | apply aB_ | apply pN_ | apply dB_) | exact HB.1))) : w.heap.size ≤ gb244)); have n3_ := Aside0.mk ((by rw [hg]; exact (below_size (by repeat (first | (with_reducible first | exact HB.1 | apply aB_ | apply pN_ | apply dB_) | exact HB.1))) : w.heap.size ≤ gb244)); clear HB; have HB := n0_; have BK244 := n1_; have GW244 := n2_; have GE244 := n3_; clear n0_ n1_ n2_ n3_; clear hb hbox hg) | ((with_reducible refine gate_dst (N := 3) rfl ?_); refine box_event ?hg (N := 3) ?hd (cs := #[.string a1_0, .string a1_1]) (t := 88) ?hr ?_; (case hd => rfl); (case hg => rfl); (case hr => first | (go_simp; done) | (go_simp; rfl)); intro gb245 hg w16 hbox hb; have n0_ := Aside0.mk (bB_ (g := gb244) (o := .cells #[.string a0_0, .string a0_1] 88 (0, 0)) (by (with_reducible repeat (first | refine bN_ ?_ _ | refine bD_ ?_ | refine bA_ ?_ _)); exact BK244.1) hb); have n1_ := Aside0.mk (below_step (by repeat (first | (with_reducible first | exact HB.1 | apply aB_ | apply pN_ | apply dB_ | refine sB_ ?_ GE244.1) | exact HB.1)) hb); have n2_ := Aside0.mk (hbox); have n3_ := Aside0.mk ((by rw [hg]; exact (below_size (by repeat (first | (with_reducible first | exact HB.1 | apply aB_ | apply pN_ | apply dB_ | refine sB_ ?_ GE244.1) | exact HB.1))) : w.heap.size ≤ gb245)); have n4_ := Aside0.mk ((by rw [hg]; exact (below_size (by repeat (first | (with_reducible first | exact HB.1 | apply aB_ | apply pN_ | apply dB_ | refine sB_ ?_ GE244.1) | exact HB.1))) : w.heap.size ≤ gb245)); have n5_ := Aside0.mk ((by rw [hg]; exact Nat.ne_of_lt (blk_lt (g := gb244) (o := .cells #[.string a0_0, .string a0_1] 88 (0, 0)) (by (with_reducible repeat (first | refine bN_ ?_ _ | refine bD_ ?_ | refine bA_ ?_ _)); exact BK244.1)) : gb244 ≠ gb245)); have n6_ := Aside0.mk ((by rw [hg]; exact Nat.ne_of_gt (blk_lt (g := gb244) (o := .cells #[.string a0_0, .string a0_1] 88 (0, 0)) (by (with_reducible repeat (first | refine bN_ ?_ _ | refine bD_ ?_ | refine bA_ ?_ _)); exact BK244.1)) : gb245 ≠ gb244)); clear BK244 HB; have BK244 := n0_; have HB := n1_; have BK245 := n2_; have GW245 := n3_; have GE245 := n4_; have NB244_245 := n5_; have NB245_244 := n6_; clear n0_ n1_ n2_ n3_ n4_ n5_ n6_; clear hb hbox hg; have hnb17 := NB244_245.1; have hnc17 := NB245_244.1; have hcz18_0 : w16.cell? ⟨gb244, 0, none⟩ = some (.string a0_0) := (bc_ BK244.1 0).trans rfl; have hcz18_1 : w16.cell? ⟨gb244, 1, none⟩ = some (.string a0_1) := (bc_ BK244.1 1).trans rfl; have hfz18_0 := bF_ BK244.1 0; have hfz18_1 := bF_ BK244.1 1; have hcz19_0 : w16.cell? ⟨gb245, 0, none⟩ = some (.string a1_0) := (bc_ BK245.1 0).trans rfl; have hcz19_1 : w16.cell? ⟨gb245, 1, none⟩ = some (.string a1_1) := (bc_ BK245.1 1).trans rfl; have hfz19_0 := bF_ BK245.1 0; have hfz19_1 := bF_ BK245.1 1))
  go_ret
  exact ⟨by first | rfl | (simp [errW_none, errW_some] <;> rfl) | (simp [*, errW_none, errW_some] <;> rfl), by repeat (first | (with_reducible first | exact HB.1 | apply aB_ | apply pN_ | apply dB_ | refine sB_ ?_ GE244.1 | refine sB_ ?_ GE245.1) | exact HB.1)⟩

end Go.Proofs.YtfncjddolbghlaaGreatDoor.GFnExactGetResp
