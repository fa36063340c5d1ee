-- by gprint.py (this session's program over the kit's print.py) (a twelfth state) out of the translation. Not trusted: Lean checks it.
import Derived.Test.YtfncjddolbghlaaGreatDoorGFnMorex0
import Derived.Test.YtfncjddolbghlaaGreatDoorGFnMorex1
import Derived.Test.YtfncjddolbghlaaGreatDoorGFnMorex2
import Derived.Test.YtfncjddolbghlaaGreatDoorGFnMorex6
import Derived.Test.YtfncjddolbghlaaGreatDoorGFnMorex7
import Derived.Test.YtfncjddolbghlaaGreatDoorGFnMorex8
import Derived.Test.YtfncjddolbghlaaGreatDoorGFnMorex10
namespace Go.Proofs.YtfncjddolbghlaaGreatDoor.GFnMore
open Go.RowKit Go.Proofs.YtfncjddolbghlaaGreatDoorW.PrintWords Go.Proofs.YtfncjddolbghlaaGreatDoorW.PrintLast Go.Proofs.YtfncjddolbghlaaGreatDoorW.PrintMore
attribute [local go_sem] max2_int min2_int max_two min_two max_three min_three max_four min_four   -- for this text's walks alone
set_option linter.unusedVariables false
set_option linter.unusedSimpArgs false
set_option maxRecDepth 100000
set_option maxHeartbeats 8000000

attribute [local go_sem high] eqA88
def impl_GetReq.f (k : Nat) (l0 : List Int) : Option (ByteArray × ByteArray × (List (S88)) × ByteArray × Int × Int) := (impl_HeadEnd.f l0).bind fun t458 => (if t458 < 0 then (if (l0.length : Int) > 400 then (some ((⟨#[]⟩ : ByteArray), (⟨#[]⟩ : ByteArray), ([] : List (S88)), (⟨#[]⟩ : ByteArray), 0, 431)) else (some ((⟨#[]⟩ : ByteArray), (⟨#[]⟩ : ByteArray), ([] : List (S88)), (⟨#[]⟩ : ByteArray), 0, 1))) else (if 0 ≤ (wrap64 (t458 - 4)) then (if (wrap64 (t458 - 4)) ≤ (l0.length : Int) then ((impl_readHead.f k (strOfNums (l0.take ((wrap64 (t458 - 4)) : Int).toNat))).bind fun bt460 => (if bt460.2.2.2.2.2.2.2.2.2 = 0 then (if bt460.2.2.2.2.2.1 = true then ((impl_GetChunks.f k l0 t458).bind fun bt473 => (if bt473.2.2 = 0 then (some (bt460.1, bt460.2.1, bt460.2.2.1, bt473.1, bt473.2.1, 0)) else (some ((⟨#[]⟩ : ByteArray), (⟨#[]⟩ : ByteArray), ([] : List (S88)), (⟨#[]⟩ : ByteArray), 0, bt473.2.2)))) else (if (wrap64 (t458 + bt460.2.2.2.2.2.2.1)) > (l0.length : Int) then (if 1 = 0 then (some (bt460.1, bt460.2.1, bt460.2.2.1, bt460.2.2.2.1, wrap64 (t458 + bt460.2.2.2.2.2.2.1), 0)) else (some ((⟨#[]⟩ : ByteArray), (⟨#[]⟩ : ByteArray), ([] : List (S88)), (⟨#[]⟩ : ByteArray), 0, 1))) else (if 0 ≤ t458 then (if t458 ≤ (wrap64 (t458 + bt460.2.2.2.2.2.2.1)) then (if (wrap64 (t458 + bt460.2.2.2.2.2.2.1)) ≤ (l0.length : Int) then (some (bt460.1, bt460.2.1, bt460.2.2.1, strOfNums ((l0.take ((wrap64 (t458 + bt460.2.2.2.2.2.2.1)) : Int).toNat).drop (t458 : Int).toNat), wrap64 (t458 + bt460.2.2.2.2.2.2.1), 0)) else (none)) else (none)) else (none)))) else (some ((⟨#[]⟩ : ByteArray), (⟨#[]⟩ : ByteArray), ([] : List (S88)), (⟨#[]⟩ : ByteArray), 0, bt460.2.2.2.2.2.2.2.2.2)))) else (none)) else (none)))

theorem impl_GetReq.calls (k : Nat) (A0 : Option Addr) (c0 : Nat) (l0 : List Int) (r1 : ByteArray) (r2 : ByteArray) (r3 : List (S88)) (r4 : ByteArray) (r5 : Int) (r6 : Int) (w : World) (hr0 : Kd.C (Kd.int .u8) w A0 l0.length l0) (hc0 : l0.length ≤ c0) (h : impl_GetReq.f k l0 = some (r1, r2, r3, r4, r5, r6)) (hG : GOK w) :
  Calls Tryz.prog 52 #[.slice A0 l0.length c0] w fun e w' => ∃ v2_ : Value, e = .returned (.tuple #[.agg #[.string r1, .string r2, v2_, .string r4], .int .i64 r5, .int .i64 r6]) ∧ Kd.R k88 88 w' w.heap.size (fun _ => True) v2_ r3 ∧ Below w.heap.size w w' := by
 have hu64 := Tryz.underlying64
 have hu113 := Tryz.underlying113
 have HR0 := Aside0.mk hr0
 have HC0 := Aside0.mk hc0
 clear hr0 hc0
 have HB := Aside0.mk (Below.refl w.heap.size w)
 have H : ((impl_HeadEnd.f l0).bind fun t458 => (if t458 < 0 then (if (l0.length : Int) > 400 then (some ((⟨#[]⟩ : ByteArray), (⟨#[]⟩ : ByteArray), ([] : List (S88)), (⟨#[]⟩ : ByteArray), 0, 431)) else (some ((⟨#[]⟩ : ByteArray), (⟨#[]⟩ : ByteArray), ([] : List (S88)), (⟨#[]⟩ : ByteArray), 0, 1))) else (if 0 ≤ (wrap64 (t458 - 4)) then (if (wrap64 (t458 - 4)) ≤ (l0.length : Int) then ((impl_readHead.f k (strOfNums (l0.take ((wrap64 (t458 - 4)) : Int).toNat))).bind fun bt460 => (if bt460.2.2.2.2.2.2.2.2.2 = 0 then (if bt460.2.2.2.2.2.1 = true then ((impl_GetChunks.f k l0 t458).bind fun bt473 => (if bt473.2.2 = 0 then (some (bt460.1, bt460.2.1, bt460.2.2.1, bt473.1, bt473.2.1, 0)) else (some ((⟨#[]⟩ : ByteArray), (⟨#[]⟩ : ByteArray), ([] : List (S88)), (⟨#[]⟩ : ByteArray), 0, bt473.2.2)))) else (if (wrap64 (t458 + bt460.2.2.2.2.2.2.1)) > (l0.length : Int) then (if 1 = 0 then (some (bt460.1, bt460.2.1, bt460.2.2.1, bt460.2.2.2.1, wrap64 (t458 + bt460.2.2.2.2.2.2.1), 0)) else (some ((⟨#[]⟩ : ByteArray), (⟨#[]⟩ : ByteArray), ([] : List (S88)), (⟨#[]⟩ : ByteArray), 0, 1))) else (if 0 ≤ t458 then (if t458 ≤ (wrap64 (t458 + bt460.2.2.2.2.2.2.1)) then (if (wrap64 (t458 + bt460.2.2.2.2.2.2.1)) ≤ (l0.length : Int) then (some (bt460.1, bt460.2.1, bt460.2.2.1, strOfNums ((l0.take ((wrap64 (t458 + bt460.2.2.2.2.2.2.1)) : Int).toNat).drop (t458 : Int).toNat), wrap64 (t458 + bt460.2.2.2.2.2.2.1), 0)) else (none)) else (none)) else (none)))) else (some ((⟨#[]⟩ : ByteArray), (⟨#[]⟩ : ByteArray), ([] : List (S88)), (⟨#[]⟩ : ByteArray), 0, bt460.2.2.2.2.2.2.2.2.2)))) else (none)) else (none)))) = some (r1, r2, r3, r4, r5, r6) := h
 clear h
 replace H := Option.bind_eq_some_iff.mp H
 obtain ⟨t458, A20, H⟩ := H
 replace H : (if t458 < 0 then (if (l0.length : Int) > 400 then (some ((⟨#[]⟩ : ByteArray), (⟨#[]⟩ : ByteArray), ([] : List (S88)), (⟨#[]⟩ : ByteArray), 0, 431)) else (some ((⟨#[]⟩ : ByteArray), (⟨#[]⟩ : ByteArray), ([] : List (S88)), (⟨#[]⟩ : ByteArray), 0, 1))) else (if 0 ≤ (wrap64 (t458 - 4)) then (if (wrap64 (t458 - 4)) ≤ (l0.length : Int) then ((impl_readHead.f k (strOfNums (l0.take ((wrap64 (t458 - 4)) : Int).toNat))).bind fun bt460 => (if bt460.2.2.2.2.2.2.2.2.2 = 0 then (if bt460.2.2.2.2.2.1 = true then ((impl_GetChunks.f k l0 t458).bind fun bt473 => (if bt473.2.2 = 0 then (some (bt460.1, bt460.2.1, bt460.2.2.1, bt473.1, bt473.2.1, 0)) else (some ((⟨#[]⟩ : ByteArray), (⟨#[]⟩ : ByteArray), ([] : List (S88)), (⟨#[]⟩ : ByteArray), 0, bt473.2.2)))) else (if (wrap64 (t458 + bt460.2.2.2.2.2.2.1)) > (l0.length : Int) then (if 1 = 0 then (some (bt460.1, bt460.2.1, bt460.2.2.1, bt460.2.2.2.1, wrap64 (t458 + bt460.2.2.2.2.2.2.1), 0)) else (some ((⟨#[]⟩ : ByteArray), (⟨#[]⟩ : ByteArray), ([] : List (S88)), (⟨#[]⟩ : ByteArray), 0, 1))) else (if 0 ≤ t458 then (if t458 ≤ (wrap64 (t458 + bt460.2.2.2.2.2.2.1)) then (if (wrap64 (t458 + bt460.2.2.2.2.2.2.1)) ≤ (l0.length : Int) then (some (bt460.1, bt460.2.1, bt460.2.2.1, strOfNums ((l0.take ((wrap64 (t458 + bt460.2.2.2.2.2.2.1)) : Int).toNat).drop (t458 : Int).toNat), wrap64 (t458 + bt460.2.2.2.2.2.2.1), 0)) else (none)) else (none)) else (none)))) else (some ((⟨#[]⟩ : ByteArray), (⟨#[]⟩ : ByteArray), ([] : List (S88)), (⟨#[]⟩ : ByteArray), 0, bt460.2.2.2.2.2.2.2.2.2)))) else (none)) else (none))) = some (r1, r2, r3, r4, r5, r6) := H
 have A2 := Aside0.mk A20
 clear A20
 by_cases c3 : t458 < 0
 ·rw [if_pos c3] at H
  have c3b0 : decide (t458 < 0) = true := decide_eq_true c3
  clear c3
  by_cases c4 : (l0.length : Int) > 400
  ·rw [if_pos c4] at H
   have c4b0 : decide (400 < (l0.length : Int)) = true := decide_eq_true c4
   have c4b1 : decide (400 < l0.length) = true := decide_eq_true (by omega)
   clear c4
   simp only [Option.some.injEq, Prod.mk.injEq] at H
   obtain ⟨rfl, rfl, rfl, rfl, rfl, rfl⟩ := H
   go_enter Tryz.func52, Tryz.ntmps52
   go_wp2_with (first | ((with_reducible refine gate_dst (N := 2) rfl ?_); refine box_event ?hg (N := 2) ?hd (cs := #[.string (⟨#[]⟩ : ByteArray), .string (⟨#[]⟩ : ByteArray), .slice none 0 0, .string (⟨#[]⟩ : ByteArray)]) (t := 64) ?hr ?_; (case hd => rfl); (case hg => rfl); (case hr => exact q26_); intro gb457 hg w5 hbox hb; have n0_ := Aside0.mk (below_step q1_ hb); have n1_ := Aside0.mk (hbox); have n2_ := Aside0.mk ((q40_ : w.heap.size ≤ gb457)); have n3_ := Aside0.mk ((q40_ : w.heap.size ≤ gb457)); clear HB; have HB := n0_; have BK457 := n1_; have GW457 := n2_; have GE457 := n3_; clear n0_ n1_ n2_ n3_; clear hb hbox hg) | ((with_reducible refine gate_callee (f := 54) rfl ?_); refine goesL_ (some 10) rfl rfl Tryz.func54 (by kernel_rfl) rfl #[.slice A0 l0.length c0] rfl q2_ ?_; (with_reducible refine (impl_HeadEnd.calls _ _ l0 t458 _ ?side1 ?side2 A2.1 ?side99).mono ?_); (case side1 => exact q42_); (case side2 => exact q121_); (case side99 => exact q17_); rintro e w6 ⟨rfl, hb⟩; refine ⟨_, rfl, ?_⟩; have n0_ := Aside0.mk (bB_ (g := gb457) (o := .cells #[.string (⟨#[]⟩ : ByteArray), .string (⟨#[]⟩ : ByteArray), .slice none 0 0, .string (⟨#[]⟩ : ByteArray)] 64 (0, 0)) q23_ hb); have n1_ := Aside0.mk (below_step q14_ hb); clear BK457 HB; have BK457 := n0_; have HB := n1_; clear n0_ n1_; (try clear hb); (try clear hb2); (try clear hk); (try clear hi); have hcz7_0 : w6.cell? ⟨gb457, 0, none⟩ = some (.string (⟨#[]⟩ : ByteArray)) := (bc_ BK457.1 0).trans rfl; have hcz7_1 : w6.cell? ⟨gb457, 1, none⟩ = some (.string (⟨#[]⟩ : ByteArray)) := (bc_ BK457.1 1).trans rfl; have hcz7_2 : w6.cell? ⟨gb457, 2, none⟩ = some (.slice none 0 0) := (bc_ BK457.1 2).trans rfl; have hcz7_3 : w6.cell? ⟨gb457, 3, none⟩ = some (.string (⟨#[]⟩ : ByteArray)) := (bc_ BK457.1 3).trans rfl; have hfz7_0 := bF_ BK457.1 0; have hfz7_1 := bF_ BK457.1 1; have hfz7_2 := bF_ BK457.1 2; have hfz7_3 := bF_ BK457.1 3))
   refine bodyPost_ret (results_ctt rfl _ _ gb457 64 #[.string (⟨#[]⟩ : ByteArray), .string (⟨#[]⟩ : ByteArray), .slice none 0 0, .string (⟨#[]⟩ : ByteArray)] (0, 0) _ rfl (by (with_reducible repeat (first | refine bN_ ?_ _ | refine bD_ ?_ | refine bA_ ?_ _)); refine blk_put (cs := #[.string (⟨#[]⟩ : ByteArray), .string (⟨#[]⟩ : ByteArray), .slice none 0 0, .string (⟨#[]⟩ : ByteArray)]) ?_ 3 _ rfl; (with_reducible repeat (first | refine bN_ ?_ _ | refine bD_ ?_ | refine bA_ ?_ _)); refine blk_put (cs := #[.string (⟨#[]⟩ : ByteArray), .string (⟨#[]⟩ : ByteArray), .slice none 0 0, .string (⟨#[]⟩ : ByteArray)]) ?_ 2 _ rfl; (with_reducible repeat (first | refine bN_ ?_ _ | refine bD_ ?_ | refine bA_ ?_ _)); refine blk_put (cs := #[.string (⟨#[]⟩ : ByteArray), .string (⟨#[]⟩ : ByteArray), .slice none 0 0, .string (⟨#[]⟩ : ByteArray)]) ?_ 1 _ rfl; (with_reducible repeat (first | refine bN_ ?_ _ | refine bD_ ?_ | refine bA_ ?_ _)); refine blk_put (cs := #[.string (⟨#[]⟩ : ByteArray), .string (⟨#[]⟩ : ByteArray), .slice none 0 0, .string (⟨#[]⟩ : ByteArray)]) ?_ 0 _ rfl; (with_reducible repeat (first | refine bN_ ?_ _ | refine bD_ ?_ | refine bA_ ?_ _)); exact BK457.1) Tryz.underlying64 rfl (by kernel_rfl)) rfl ?_
   exact ⟨_, q10_, q77_, q14_⟩
  ·rw [if_neg c4] at H
   have c4b0 : decide (400 < (l0.length : Int)) = false := decide_eq_false c4
   have c4b1 : decide (400 < l0.length) = false := decide_eq_false (by omega)
   clear c4
   simp only [Option.some.injEq, Prod.mk.injEq] at H
   obtain ⟨rfl, rfl, rfl, rfl, rfl, rfl⟩ := H
   go_enter Tryz.func52, Tryz.ntmps52
   go_wp2_with (first | ((with_reducible refine gate_dst (N := 2) rfl ?_); refine box_event ?hg (N := 2) ?hd (cs := #[.string (⟨#[]⟩ : ByteArray), .string (⟨#[]⟩ : ByteArray), .slice none 0 0, .string (⟨#[]⟩ : ByteArray)]) (t := 64) ?hr ?_; (case hd => rfl); (case hg => rfl); (case hr => exact q26_); intro gb457 hg w8 hbox hb; have n0_ := Aside0.mk (below_step q1_ hb); have n1_ := Aside0.mk (hbox); have n2_ := Aside0.mk ((q40_ : w.heap.size ≤ gb457)); have n3_ := Aside0.mk ((q40_ : w.heap.size ≤ gb457)); clear HB; have HB := n0_; have BK457 := n1_; have GW457 := n2_; have GE457 := n3_; clear n0_ n1_ n2_ n3_; clear hb hbox hg) | ((with_reducible refine gate_callee (f := 54) rfl ?_); refine goesL_ (some 10) rfl rfl Tryz.func54 (by kernel_rfl) rfl #[.slice A0 l0.length c0] rfl q2_ ?_; (with_reducible refine (impl_HeadEnd.calls _ _ l0 t458 _ ?side1 ?side2 A2.1 ?side99).mono ?_); (case side1 => exact q42_); (case side2 => exact q121_); (case side99 => exact q17_); rintro e w9 ⟨rfl, hb⟩; refine ⟨_, rfl, ?_⟩; have n0_ := Aside0.mk (bB_ (g := gb457) (o := .cells #[.string (⟨#[]⟩ : ByteArray), .string (⟨#[]⟩ : ByteArray), .slice none 0 0, .string (⟨#[]⟩ : ByteArray)] 64 (0, 0)) q23_ hb); have n1_ := Aside0.mk (below_step q14_ hb); clear BK457 HB; have BK457 := n0_; have HB := n1_; clear n0_ n1_; (try clear hb); (try clear hb2); (try clear hk); (try clear hi); have hcz10_0 : w9.cell? ⟨gb457, 0, none⟩ = some (.string (⟨#[]⟩ : ByteArray)) := (bc_ BK457.1 0).trans rfl; have hcz10_1 : w9.cell? ⟨gb457, 1, none⟩ = some (.string (⟨#[]⟩ : ByteArray)) := (bc_ BK457.1 1).trans rfl; have hcz10_2 : w9.cell? ⟨gb457, 2, none⟩ = some (.slice none 0 0) := (bc_ BK457.1 2).trans rfl; have hcz10_3 : w9.cell? ⟨gb457, 3, none⟩ = some (.string (⟨#[]⟩ : ByteArray)) := (bc_ BK457.1 3).trans rfl; have hfz10_0 := bF_ BK457.1 0; have hfz10_1 := bF_ BK457.1 1; have hfz10_2 := bF_ BK457.1 2; have hfz10_3 := bF_ BK457.1 3))
   refine bodyPost_ret (results_ctt rfl _ _ gb457 64 #[.string (⟨#[]⟩ : ByteArray), .string (⟨#[]⟩ : ByteArray), .slice none 0 0, .string (⟨#[]⟩ : ByteArray)] (0, 0) _ rfl (by (with_reducible repeat (first | refine bN_ ?_ _ | refine bD_ ?_ | refine bA_ ?_ _)); refine blk_put (cs := #[.string (⟨#[]⟩ : ByteArray), .string (⟨#[]⟩ : ByteArray), .slice none 0 0, .string (⟨#[]⟩ : ByteArray)]) ?_ 3 _ rfl; (with_reducible repeat (first | refine bN_ ?_ _ | refine bD_ ?_ | refine bA_ ?_ _)); refine blk_put (cs := #[.string (⟨#[]⟩ : ByteArray), .string (⟨#[]⟩ : ByteArray), .slice none 0 0, .string (⟨#[]⟩ : ByteArray)]) ?_ 2 _ rfl; (with_reducible repeat (first | refine bN_ ?_ _ | refine bD_ ?_ | refine bA_ ?_ _)); refine blk_put (cs := #[.string (⟨#[]⟩ : ByteArray), .string (⟨#[]⟩ : ByteArray), .slice none 0 0, .string (⟨#[]⟩ : ByteArray)]) ?_ 1 _ rfl; (with_reducible repeat (first | refine bN_ ?_ _ | refine bD_ ?_ | refine bA_ ?_ _)); refine blk_put (cs := #[.string (⟨#[]⟩ : ByteArray), .string (⟨#[]⟩ : ByteArray), .slice none 0 0, .string (⟨#[]⟩ : ByteArray)]) ?_ 0 _ rfl; (with_reducible repeat (first | refine bN_ ?_ _ | refine bD_ ?_ | refine bA_ ?_ _)); exact BK457.1) Tryz.underlying64 rfl (by kernel_rfl)) rfl ?_
   exact ⟨_, q10_, q77_, q14_⟩
 ·rw [if_neg c3] at H
  have c3b0 : decide (t458 < 0) = false := decide_eq_false c3
  clear c3
  obtain ⟨ji11, hji11⟩ : ∃ j_ : Int, (wrap64 (t458 - 4)) = j_ := ⟨_, rfl⟩
  replace H : (if 0 ≤ (ji11) then (if (ji11) ≤ (l0.length : Int) then ((impl_readHead.f k (strOfNums (l0.take ((ji11) : Int).toNat))).bind fun bt460 => (if bt460.2.2.2.2.2.2.2.2.2 = 0 then (if bt460.2.2.2.2.2.1 = true then ((impl_GetChunks.f k l0 t458).bind fun bt473 => (if bt473.2.2 = 0 then (some (bt460.1, bt460.2.1, bt460.2.2.1, bt473.1, bt473.2.1, 0)) else (some ((⟨#[]⟩ : ByteArray), (⟨#[]⟩ : ByteArray), ([] : List (S88)), (⟨#[]⟩ : ByteArray), 0, bt473.2.2)))) else (if (wrap64 (t458 + bt460.2.2.2.2.2.2.1)) > (l0.length : Int) then (if 1 = 0 then (some (bt460.1, bt460.2.1, bt460.2.2.1, bt460.2.2.2.1, wrap64 (t458 + bt460.2.2.2.2.2.2.1), 0)) else (some ((⟨#[]⟩ : ByteArray), (⟨#[]⟩ : ByteArray), ([] : List (S88)), (⟨#[]⟩ : ByteArray), 0, 1))) else (if 0 ≤ t458 then (if t458 ≤ (wrap64 (t458 + bt460.2.2.2.2.2.2.1)) then (if (wrap64 (t458 + bt460.2.2.2.2.2.2.1)) ≤ (l0.length : Int) then (some (bt460.1, bt460.2.1, bt460.2.2.1, strOfNums ((l0.take ((wrap64 (t458 + bt460.2.2.2.2.2.2.1)) : Int).toNat).drop (t458 : Int).toNat), wrap64 (t458 + bt460.2.2.2.2.2.2.1), 0)) else (none)) else (none)) else (none)))) else (some ((⟨#[]⟩ : ByteArray), (⟨#[]⟩ : ByteArray), ([] : List (S88)), (⟨#[]⟩ : ByteArray), 0, bt460.2.2.2.2.2.2.2.2.2)))) else (none)) else (none)) = some (r1, r2, r3, r4, r5, r6) := by first | (rw [hji11] at H; exact H) | (simp only [hji11] at H ⊢; exact H)
  (try rw [hji11] at A2)
  have hji11w : (IntKind.i64.wrap (t458 - 4)) = ji11 := (i64_w _).trans hji11
  by_cases c12 : 0 ≤ (ji11)
  ·rw [if_pos c12] at H
   have c12b0 := eq_true c12
   have c12b1 : decide (0 ≤ (ji11)) = true := decide_eq_true c12
   clear c12
   by_cases c13 : (ji11) ≤ (l0.length : Int)
   ·rw [if_pos c13] at H
    have c13b0 := eq_true c13
    have c13b1 : decide ((ji11) ≤ (l0.length : Int)) = true := decide_eq_true c13
    clear c13
    replace H := Option.bind_eq_some_iff.mp H
    obtain ⟨⟨t460, t461, t462, t465, t466, t467, t468, t469, t470, t471⟩, A140, H⟩ := H
    replace H : (if t471 = 0 then (if t467 = true then ((impl_GetChunks.f k l0 t458).bind fun bt473 => (if bt473.2.2 = 0 then (some (t460, t461, t462, bt473.1, bt473.2.1, 0)) else (some ((⟨#[]⟩ : ByteArray), (⟨#[]⟩ : ByteArray), ([] : List (S88)), (⟨#[]⟩ : ByteArray), 0, bt473.2.2)))) else (if (wrap64 (t458 + t468)) > (l0.length : Int) then (if 1 = 0 then (some (t460, t461, t462, t465, wrap64 (t458 + t468), 0)) else (some ((⟨#[]⟩ : ByteArray), (⟨#[]⟩ : ByteArray), ([] : List (S88)), (⟨#[]⟩ : ByteArray), 0, 1))) else (if 0 ≤ t458 then (if t458 ≤ (wrap64 (t458 + t468)) then (if (wrap64 (t458 + t468)) ≤ (l0.length : Int) then (some (t460, t461, t462, strOfNums ((l0.take ((wrap64 (t458 + t468)) : Int).toNat).drop (t458 : Int).toNat), wrap64 (t458 + t468), 0)) else (none)) else (none)) else (none)))) else (some ((⟨#[]⟩ : ByteArray), (⟨#[]⟩ : ByteArray), ([] : List (S88)), (⟨#[]⟩ : ByteArray), 0, t471))) = some (r1, r2, r3, r4, r5, r6) := H
    have A14 := Aside0.mk A140
    clear A140
    by_cases c15 : t471 = 0
    ·rw [if_pos c15] at H
     have c15b0 : (t471 == 0) = true := beq_iff_eq.mpr c15
     have c15b1 : (t471 != 0) = false := bne_eq_false_iff_eq.mpr c15
     clear c15
     by_cases c16 : t467 = true
     ·subst c16
      rw [if_pos rfl] at H
      replace H := Option.bind_eq_some_iff.mp H
      obtain ⟨⟨t473, t474, t475⟩, A170, H⟩ := H
      replace H : (if t475 = 0 then (some (t460, t461, t462, t473, t474, 0)) else (some ((⟨#[]⟩ : ByteArray), (⟨#[]⟩ : ByteArray), ([] : List (S88)), (⟨#[]⟩ : ByteArray), 0, t475))) = some (r1, r2, r3, r4, r5, r6) := H
      have A17 := Aside0.mk A170
      clear A170
      by_cases c18 : t475 = 0
      ·rw [if_pos c18] at H
       have c18b0 : (t475 == 0) = true := beq_iff_eq.mpr c18
       have c18b1 : (t475 != 0) = false := bne_eq_false_iff_eq.mpr c18
       clear c18
       simp only [Option.some.injEq, Prod.mk.injEq] at H
       obtain ⟨rfl, rfl, rfl, rfl, rfl, rfl⟩ := H
       go_enter Tryz.func52, Tryz.ntmps52
       go_wp2_with (first | ((with_reducible refine gate_dst (N := 2) rfl ?_); refine box_event ?hg (N := 2) ?hd (cs := #[.string (⟨#[]⟩ : ByteArray), .string (⟨#[]⟩ : ByteArray), .slice none 0 0, .string (⟨#[]⟩ : ByteArray)]) (t := 64) ?hr ?_; (case hd => rfl); (case hg => rfl); (case hr => exact q26_); intro gb457 hg w19 hbox hb; have n0_ := Aside0.mk (below_step q1_ hb); have n1_ := Aside0.mk (hbox); have n2_ := Aside0.mk ((q40_ : w.heap.size ≤ gb457)); have n3_ := Aside0.mk ((q40_ : w.heap.size ≤ gb457)); clear HB; have HB := n0_; have BK457 := n1_; have GW457 := n2_; have GE457 := n3_; clear n0_ n1_ n2_ n3_; clear hb hbox hg) | ((with_reducible refine gate_callee (f := 54) rfl ?_); refine goesL_ (some 10) rfl rfl Tryz.func54 (by kernel_rfl) rfl #[.slice A0 l0.length c0] rfl q2_ ?_; (with_reducible refine (impl_HeadEnd.calls _ _ l0 t458 _ ?side1 ?side2 A2.1 ?side99).mono ?_); (case side1 => exact q42_); (case side2 => exact q121_); (case side99 => exact q17_); rintro e w20 ⟨rfl, hb⟩; refine ⟨_, rfl, ?_⟩; have n0_ := Aside0.mk (bB_ (g := gb457) (o := .cells #[.string (⟨#[]⟩ : ByteArray), .string (⟨#[]⟩ : ByteArray), .slice none 0 0, .string (⟨#[]⟩ : ByteArray)] 64 (0, 0)) q23_ hb); have n1_ := Aside0.mk (below_step q14_ hb); clear BK457 HB; have BK457 := n0_; have HB := n1_; clear n0_ n1_; (try clear hb); (try clear hb2); (try clear hk); (try clear hi); obtain ⟨i021, hi021, _, hsz21, _⟩ := info_parts info5; obtain ⟨hcut21, hA21, hC21⟩ := print_take_of (P := Tryz.prog) (Value.int .u8) 0 22 5 .i64 Tryz.underlying22 hi021 hsz21 A0 c0 l0 (ji11) (of_decide_eq_true q4_) (of_decide_eq_true q4_) HC0.1; have HR459 := Aside0.mk (Kd.C_of_reads (h1 := fun _ => rfl) (hA21 _ (Kd.reads_of_C HR0.1))); have HC459 := Aside0.mk hC21; clear hA21 hC21 hi021 hsz21; have hq_ := (Kd.C_below HR459.1 HB.1); rw [show (l0.take ((ji11) : Int).toNat).length = (ji11).toNat from q92_] at hq_; have hcv22 := Kd.C_string (P := Tryz.prog) (A := A0) (c := c0) Tryz.underlying22 Tryz.underlying5 Tryz.underlying9 hq_; have hcv23 := fun nq_ : Nat => Kd.C_string (P := Tryz.prog) (A := A0) (c := c0) Tryz.underlying22 Tryz.underlying5 Tryz.underlying9 (Kd.C_drewN hq_ nq_); clear hq_) | ((with_reducible refine gate_callee (f := 108) rfl ?_); refine goesL_ (some 24) rfl rfl Tryz.func108 (by kernel_rfl) rfl #[.string (strOfNums (l0.take ((ji11) : Int).toNat))] rfl q71_ ?_; (with_reducible refine (impl_readHead.calls k (strOfNums (l0.take ((ji11) : Int).toNat)) t460 t461 t462 t465 t466 true t468 t469 t470 t471 _ A14.1 ?side99).mono ?_); (case side99 => exact q17_); rintro e w24 ⟨v463, rfl, ho0, hb⟩; refine ⟨_, rfl, ?_⟩; have n0_ := Aside0.mk (Kd.R_lower ho0 (below_size q14_)); have n1_ := Aside0.mk (bB_ (g := gb457) (o := .cells #[.string (⟨#[]⟩ : ByteArray), .string (⟨#[]⟩ : ByteArray), .slice none 0 0, .string (⟨#[]⟩ : ByteArray)] 64 (0, 0)) q23_ hb); have n2_ := Aside0.mk (below_step q14_ hb); clear BK457 HB; have HO464 := n0_; have BK457 := n1_; have HB := n2_; clear n0_ n1_ n2_; (try clear hb); (try clear hb2); (try clear hk); (try clear hi); (try clear ho0)) | ((with_reducible refine gate_dst (N := 6) rfl ?_); refine box_event ?hg (N := 6) ?hd (cs := #[.string (⟨#[]⟩ : ByteArray), .string (⟨#[]⟩ : ByteArray), .slice none 0 0, .string (⟨#[]⟩ : ByteArray), .string (⟨#[]⟩ : ByteArray), .bool false, .int .i64 0, .bool false, .bool false]) (t := 113) ?hr ?_; (case hd => rfl); (case hg => rfl); (case hr => exact q26_); intro gb472 hg w25 hbox hb; have n0_ := Aside0.mk (Kd.R_below q87_ hb); have n1_ := Aside0.mk (bB_ (g := gb457) (o := .cells #[.string (⟨#[]⟩ : ByteArray), .string (⟨#[]⟩ : ByteArray), .slice none 0 0, .string (⟨#[]⟩ : ByteArray)] 64 (0, 0)) q23_ hb); have n2_ := Aside0.mk (below_step q14_ hb); have n3_ := Aside0.mk (hbox); have n4_ := Aside0.mk ((q99_ : w.heap.size ≤ gb472)); have n5_ := Aside0.mk ((q99_ : w.heap.size ≤ gb472)); have n6_ := Aside0.mk ((q66_ : gb457 ≠ gb472)); have n7_ := Aside0.mk ((q67_ : gb472 ≠ gb457)); clear HO464 BK457 HB; have HO464 := n0_; have BK457 := n1_; have HB := n2_; have BK472 := n3_; have GW472 := n4_; have GE472 := n5_; have NB457_472 := n6_; have NB472_457 := n7_; clear n0_ n1_ n2_ n3_ n4_ n5_ n6_ n7_; clear hb hbox hg; have hnb26 := NB472_457.1; have hnc26 := NB457_472.1; have hcz27_0 : w25.cell? ⟨gb472, 0, none⟩ = some (.string (⟨#[]⟩ : ByteArray)) := (bc_ BK472.1 0).trans rfl; have hcz27_1 : w25.cell? ⟨gb472, 1, none⟩ = some (.string (⟨#[]⟩ : ByteArray)) := (bc_ BK472.1 1).trans rfl; have hcz27_2 : w25.cell? ⟨gb472, 2, none⟩ = some (.slice none 0 0) := (bc_ BK472.1 2).trans rfl; have hcz27_3 : w25.cell? ⟨gb472, 3, none⟩ = some (.string (⟨#[]⟩ : ByteArray)) := (bc_ BK472.1 3).trans rfl; have hcz27_4 : w25.cell? ⟨gb472, 4, none⟩ = some (.string (⟨#[]⟩ : ByteArray)) := (bc_ BK472.1 4).trans rfl; have hcz27_5 : w25.cell? ⟨gb472, 5, none⟩ = some (.bool false) := (bc_ BK472.1 5).trans rfl; have hcz27_6 : w25.cell? ⟨gb472, 6, none⟩ = some (.int .i64 0) := (bc_ BK472.1 6).trans rfl; have hcz27_7 : w25.cell? ⟨gb472, 7, none⟩ = some (.bool false) := (bc_ BK472.1 7).trans rfl; have hcz27_8 : w25.cell? ⟨gb472, 8, none⟩ = some (.bool false) := (bc_ BK472.1 8).trans rfl; have hfz27_0 := bF_ BK472.1 0; have hfz27_1 := bF_ BK472.1 1; have hfz27_2 := bF_ BK472.1 2; have hfz27_3 := bF_ BK472.1 3; have hfz27_4 := bF_ BK472.1 4; have hfz27_5 := bF_ BK472.1 5; have hfz27_6 := bF_ BK472.1 6; have hfz27_7 := bF_ BK472.1 7; have hfz27_8 := bF_ BK472.1 8; obtain ⟨Ao28, co28, eo28⟩ := Kd.R_slice HO464.1; subst eo28) | ((with_reducible refine gate_callee (f := 66) rfl ?_); refine goesL_ (some 48) rfl rfl Tryz.func66 (by kernel_rfl) rfl #[.slice A0 l0.length c0, .int .i64 t458] rfl q2_ ?_; (with_reducible refine (impl_GetChunks.calls k _ _ l0 t458 t473 t474 t475 _ ?side1 ?side2 A17.1 ?side99).mono ?_); (case side1 => exact Kd.C_below HR0.1 q38_); (case side2 => exact q121_); (case side99 => exact q17_); rintro e w29 ⟨rfl, hb⟩; refine ⟨_, rfl, ?_⟩; have n0_ := Aside0.mk (Kd.R_below (by (with_reducible repeat (first | apply rA_ | apply rN_ | apply rD_)); exact (Kd.R_mono (rF_ (p := ⟨gb472, 8, none⟩) (rF_ (p := ⟨gb472, 7, none⟩) (rF_ (p := ⟨gb472, 6, none⟩) (rF_ (p := ⟨gb472, 5, none⟩) (rF_ (p := ⟨gb472, 4, none⟩) (rF_ (p := ⟨gb472, 3, none⟩) (rF_ (p := ⟨gb472, 2, none⟩) (rF_ (p := ⟨gb472, 1, none⟩) (rF_ (p := ⟨gb472, 0, none⟩) (Kd.R_types HO464.1 BK472.1 (by decide)) (fun _ hk => hk.2) (.string t460)) (fun _ hk => hk.2) (.string t461)) (fun _ hk => hk.2) (.slice Ao28 t462.length co28)) (fun _ hk => hk.2) (.string t465)) (fun _ hk => hk.2) (.string t466)) (fun _ hk => hk.2) (.bool true)) (fun _ hk => hk.2) (.int .i64 t468)) (fun _ hk => hk.2) (.bool t469)) (fun _ hk => hk.2) (.bool t470)) (fun _ h_ => h_.1))) hb); have n1_ := Aside0.mk (bB_ (g := gb457) (o := .cells #[.string (⟨#[]⟩ : ByteArray), .string (⟨#[]⟩ : ByteArray), .slice none 0 0, .string (⟨#[]⟩ : ByteArray)] 64 (0, 0)) q25_ hb); have n2_ := Aside0.mk (bB_ (g := gb472) (o := .cells #[.string t460, .string t461, .slice Ao28 t462.length co28, .string t465, .string t466, .bool true, .int .i64 t468, .bool t469, .bool t470] 113 (0, 0)) (by (with_reducible repeat (first | refine bN_ ?_ _ | refine bD_ ?_ | refine bA_ ?_ _)); refine blk_put (cs := #[.string t460, .string t461, .slice Ao28 t462.length co28, .string t465, .string t466, .bool true, .int .i64 t468, .bool t469, .bool false]) ?_ 8 _ rfl; (with_reducible repeat (first | refine bN_ ?_ _ | refine bD_ ?_ | refine bA_ ?_ _)); refine blk_put (cs := #[.string t460, .string t461, .slice Ao28 t462.length co28, .string t465, .string t466, .bool true, .int .i64 t468, .bool false, .bool false]) ?_ 7 _ rfl; (with_reducible repeat (first | refine bN_ ?_ _ | refine bD_ ?_ | refine bA_ ?_ _)); refine blk_put (cs := #[.string t460, .string t461, .slice Ao28 t462.length co28, .string t465, .string t466, .bool true, .int .i64 0, .bool false, .bool false]) ?_ 6 _ rfl; (with_reducible repeat (first | refine bN_ ?_ _ | refine bD_ ?_ | refine bA_ ?_ _)); refine blk_put (cs := #[.string t460, .string t461, .slice Ao28 t462.length co28, .string t465, .string t466, .bool false, .int .i64 0, .bool false, .bool false]) ?_ 5 _ rfl; (with_reducible repeat (first | refine bN_ ?_ _ | refine bD_ ?_ | refine bA_ ?_ _)); refine blk_put (cs := #[.string t460, .string t461, .slice Ao28 t462.length co28, .string t465, .string (⟨#[]⟩ : ByteArray), .bool false, .int .i64 0, .bool false, .bool false]) ?_ 4 _ rfl; (with_reducible repeat (first | refine bN_ ?_ _ | refine bD_ ?_ | refine bA_ ?_ _)); refine blk_put (cs := #[.string t460, .string t461, .slice Ao28 t462.length co28, .string (⟨#[]⟩ : ByteArray), .string (⟨#[]⟩ : ByteArray), .bool false, .int .i64 0, .bool false, .bool false]) ?_ 3 _ rfl; (with_reducible repeat (first | refine bN_ ?_ _ | refine bD_ ?_ | refine bA_ ?_ _)); refine blk_put (cs := #[.string t460, .string t461, .slice none 0 0, .string (⟨#[]⟩ : ByteArray), .string (⟨#[]⟩ : ByteArray), .bool false, .int .i64 0, .bool false, .bool false]) ?_ 2 _ rfl; (with_reducible repeat (first | refine bN_ ?_ _ | refine bD_ ?_ | refine bA_ ?_ _)); refine blk_put (cs := #[.string t460, .string (⟨#[]⟩ : ByteArray), .slice none 0 0, .string (⟨#[]⟩ : ByteArray), .string (⟨#[]⟩ : ByteArray), .bool false, .int .i64 0, .bool false, .bool false]) ?_ 1 _ rfl; (with_reducible repeat (first | refine bN_ ?_ _ | refine bD_ ?_ | refine bA_ ?_ _)); refine blk_put (cs := #[.string (⟨#[]⟩ : ByteArray), .string (⟨#[]⟩ : ByteArray), .slice none 0 0, .string (⟨#[]⟩ : ByteArray), .string (⟨#[]⟩ : ByteArray), .bool false, .int .i64 0, .bool false, .bool false]) ?_ 0 _ rfl; (with_reducible repeat (first | refine bN_ ?_ _ | refine bD_ ?_ | refine bA_ ?_ _)); exact BK472.1) hb); have n3_ := Aside0.mk (below_step q38_ hb); clear HO464 BK457; clear BK472 HB; have HO464 := n0_; have BK457 := n1_; have BK472 := n2_; have HB := n3_; clear n0_ n1_ n2_ n3_; (try clear hb); (try clear hb2); (try clear hk); (try clear hi); have hcz30_0 : w29.cell? ⟨gb472, 0, none⟩ = some (.string t460) := (bc_ BK472.1 0).trans rfl; have hcz30_1 : w29.cell? ⟨gb472, 1, none⟩ = some (.string t461) := (bc_ BK472.1 1).trans rfl; have hcz30_2 : w29.cell? ⟨gb472, 2, none⟩ = some (.slice Ao28 t462.length co28) := (bc_ BK472.1 2).trans rfl; have hcz30_3 : w29.cell? ⟨gb472, 3, none⟩ = some (.string t465) := (bc_ BK472.1 3).trans rfl; have hcz30_4 : w29.cell? ⟨gb472, 4, none⟩ = some (.string t466) := (bc_ BK472.1 4).trans rfl; have hcz30_5 : w29.cell? ⟨gb472, 5, none⟩ = some (.bool true) := (bc_ BK472.1 5).trans rfl; have hcz30_6 : w29.cell? ⟨gb472, 6, none⟩ = some (.int .i64 t468) := (bc_ BK472.1 6).trans rfl; have hcz30_7 : w29.cell? ⟨gb472, 7, none⟩ = some (.bool t469) := (bc_ BK472.1 7).trans rfl; have hcz30_8 : w29.cell? ⟨gb472, 8, none⟩ = some (.bool t470) := (bc_ BK472.1 8).trans rfl; have hfz30_0 := bF_ BK472.1 0; have hfz30_1 := bF_ BK472.1 1; have hfz30_2 := bF_ BK472.1 2; have hfz30_3 := bF_ BK472.1 3; have hfz30_4 := bF_ BK472.1 4; have hfz30_5 := bF_ BK472.1 5; have hfz30_6 := bF_ BK472.1 6; have hfz30_7 := bF_ BK472.1 7; have hfz30_8 := bF_ BK472.1 8; have hcz31_0 : w29.cell? ⟨gb457, 0, none⟩ = some (.string (⟨#[]⟩ : ByteArray)) := (bc_ BK457.1 0).trans rfl; have hcz31_1 : w29.cell? ⟨gb457, 1, none⟩ = some (.string (⟨#[]⟩ : ByteArray)) := (bc_ BK457.1 1).trans rfl; have hcz31_2 : w29.cell? ⟨gb457, 2, none⟩ = some (.slice none 0 0) := (bc_ BK457.1 2).trans rfl; have hcz31_3 : w29.cell? ⟨gb457, 3, none⟩ = some (.string (⟨#[]⟩ : ByteArray)) := (bc_ BK457.1 3).trans rfl; have hfz31_0 := bF_ BK457.1 0; have hfz31_1 := bF_ BK457.1 1; have hfz31_2 := bF_ BK457.1 2; have hfz31_3 := bF_ BK457.1 3))
       refine bodyPost_ret (results_ctt rfl _ _ gb457 64 #[.string t460, .string t461, .slice Ao28 t462.length co28, .string t473] (0, 0) _ rfl (by (with_reducible repeat (first | refine bN_ ?_ _ | refine bD_ ?_ | refine bA_ ?_ _)); refine blk_put (cs := #[.string t460, .string t461, .slice Ao28 t462.length co28, .string (⟨#[]⟩ : ByteArray)]) ?_ 3 _ rfl; (with_reducible repeat (first | refine bN_ ?_ _ | refine bD_ ?_ | refine bA_ ?_ _)); refine blk_put (cs := #[.string t460, .string t461, .slice none 0 0, .string (⟨#[]⟩ : ByteArray)]) ?_ 2 _ rfl; (with_reducible repeat (first | refine bN_ ?_ _ | refine bD_ ?_ | refine bA_ ?_ _)); refine blk_put (cs := #[.string t460, .string (⟨#[]⟩ : ByteArray), .slice none 0 0, .string (⟨#[]⟩ : ByteArray)]) ?_ 1 _ rfl; (with_reducible repeat (first | refine bN_ ?_ _ | refine bD_ ?_ | refine bA_ ?_ _)); refine blk_put (cs := #[.string (⟨#[]⟩ : ByteArray), .string (⟨#[]⟩ : ByteArray), .slice none 0 0, .string (⟨#[]⟩ : ByteArray)]) ?_ 0 _ rfl; (with_reducible repeat (first | refine bN_ ?_ _ | refine bD_ ?_ | refine bA_ ?_ _)); refine blk_far ?_ NB457_472.1 _; (with_reducible repeat (first | refine bN_ ?_ _ | refine bD_ ?_ | refine bA_ ?_ _)); exact BK457.1) Tryz.underlying64 rfl (by kernel_rfl)) rfl ?_
       exact ⟨_, q69_, by (with_reducible repeat (first | apply rA_ | apply rN_ | apply rD_)); exact Kd.R_mono (rF_ (p := ⟨gb457, 3, none⟩) (rF_ (p := ⟨gb457, 2, none⟩) (rF_ (p := ⟨gb457, 1, none⟩) (rF_ (p := ⟨gb457, 0, none⟩) (rF_ (p := ⟨gb472, 3, none⟩) (Kd.R_types (Kd.R_types HO464.1 BK472.1 (by decide)) BK457.1 (by decide)) (fun _ hk => hk.1.2) (.string t473)) (fun _ hk => hk.2) (.string t460)) (fun _ hk => hk.2) (.string t461)) (fun _ hk => hk.2) (.slice Ao28 t462.length co28)) (fun _ hk => hk.2) (.string t473)) (fun _ hk => trivial), q38_⟩
      ·rw [if_neg c18] at H
       have c18b0 : (t475 == 0) = false := beq_eq_false_iff_ne.mpr c18
       have c18b1 : (t475 != 0) = true := bne_iff_ne.mpr c18
       simp only [Option.some.injEq, Prod.mk.injEq] at H
       obtain ⟨rfl, rfl, rfl, rfl, rfl, rfl⟩ := H
       go_enter Tryz.func52, Tryz.ntmps52
       go_wp2_with (first | ((with_reducible refine gate_dst (N := 2) rfl ?_); refine box_event ?hg (N := 2) ?hd (cs := #[.string (⟨#[]⟩ : ByteArray), .string (⟨#[]⟩ : ByteArray), .slice none 0 0, .string (⟨#[]⟩ : ByteArray)]) (t := 64) ?hr ?_; (case hd => rfl); (case hg => rfl); (case hr => exact q26_); intro gb457 hg w32 hbox hb; have n0_ := Aside0.mk (below_step q1_ hb); have n1_ := Aside0.mk (hbox); have n2_ := Aside0.mk ((q40_ : w.heap.size ≤ gb457)); have n3_ := Aside0.mk ((q40_ : w.heap.size ≤ gb457)); clear HB; have HB := n0_; have BK457 := n1_; have GW457 := n2_; have GE457 := n3_; clear n0_ n1_ n2_ n3_; clear hb hbox hg) | ((with_reducible refine gate_callee (f := 54) rfl ?_); refine goesL_ (some 10) rfl rfl Tryz.func54 (by kernel_rfl) rfl #[.slice A0 l0.length c0] rfl q2_ ?_; (with_reducible refine (impl_HeadEnd.calls _ _ l0 t458 _ ?side1 ?side2 A2.1 ?side99).mono ?_); (case side1 => exact q42_); (case side2 => exact q121_); (case side99 => exact q17_); rintro e w33 ⟨rfl, hb⟩; refine ⟨_, rfl, ?_⟩; have n0_ := Aside0.mk (bB_ (g := gb457) (o := .cells #[.string (⟨#[]⟩ : ByteArray), .string (⟨#[]⟩ : ByteArray), .slice none 0 0, .string (⟨#[]⟩ : ByteArray)] 64 (0, 0)) q23_ hb); have n1_ := Aside0.mk (below_step q14_ hb); clear BK457 HB; have BK457 := n0_; have HB := n1_; clear n0_ n1_; (try clear hb); (try clear hb2); (try clear hk); (try clear hi); obtain ⟨i034, hi034, _, hsz34, _⟩ := info_parts info5; obtain ⟨hcut34, hA34, hC34⟩ := print_take_of (P := Tryz.prog) (Value.int .u8) 0 22 5 .i64 Tryz.underlying22 hi034 hsz34 A0 c0 l0 (ji11) (of_decide_eq_true q4_) (of_decide_eq_true q4_) HC0.1; have HR459 := Aside0.mk (Kd.C_of_reads (h1 := fun _ => rfl) (hA34 _ (Kd.reads_of_C HR0.1))); have HC459 := Aside0.mk hC34; clear hA34 hC34 hi034 hsz34; have hq_ := (Kd.C_below HR459.1 HB.1); rw [show (l0.take ((ji11) : Int).toNat).length = (ji11).toNat from q92_] at hq_; have hcv35 := Kd.C_string (P := Tryz.prog) (A := A0) (c := c0) Tryz.underlying22 Tryz.underlying5 Tryz.underlying9 hq_; have hcv36 := fun nq_ : Nat => Kd.C_string (P := Tryz.prog) (A := A0) (c := c0) Tryz.underlying22 Tryz.underlying5 Tryz.underlying9 (Kd.C_drewN hq_ nq_); clear hq_) | ((with_reducible refine gate_callee (f := 108) rfl ?_); refine goesL_ (some 24) rfl rfl Tryz.func108 (by kernel_rfl) rfl #[.string (strOfNums (l0.take ((ji11) : Int).toNat))] rfl q71_ ?_; (with_reducible refine (impl_readHead.calls k (strOfNums (l0.take ((ji11) : Int).toNat)) t460 t461 t462 t465 t466 true t468 t469 t470 t471 _ A14.1 ?side99).mono ?_); (case side99 => exact q17_); rintro e w37 ⟨v463, rfl, ho0, hb⟩; refine ⟨_, rfl, ?_⟩; have n0_ := Aside0.mk (Kd.R_lower ho0 (below_size q14_)); have n1_ := Aside0.mk (bB_ (g := gb457) (o := .cells #[.string (⟨#[]⟩ : ByteArray), .string (⟨#[]⟩ : ByteArray), .slice none 0 0, .string (⟨#[]⟩ : ByteArray)] 64 (0, 0)) q23_ hb); have n2_ := Aside0.mk (below_step q14_ hb); clear BK457 HB; have HO464 := n0_; have BK457 := n1_; have HB := n2_; clear n0_ n1_ n2_; (try clear hb); (try clear hb2); (try clear hk); (try clear hi); (try clear ho0)) | ((with_reducible refine gate_dst (N := 6) rfl ?_); refine box_event ?hg (N := 6) ?hd (cs := #[.string (⟨#[]⟩ : ByteArray), .string (⟨#[]⟩ : ByteArray), .slice none 0 0, .string (⟨#[]⟩ : ByteArray), .string (⟨#[]⟩ : ByteArray), .bool false, .int .i64 0, .bool false, .bool false]) (t := 113) ?hr ?_; (case hd => rfl); (case hg => rfl); (case hr => exact q26_); intro gb472 hg w38 hbox hb; have n0_ := Aside0.mk (Kd.R_below q87_ hb); have n1_ := Aside0.mk (bB_ (g := gb457) (o := .cells #[.string (⟨#[]⟩ : ByteArray), .string (⟨#[]⟩ : ByteArray), .slice none 0 0, .string (⟨#[]⟩ : ByteArray)] 64 (0, 0)) q23_ hb); have n2_ := Aside0.mk (below_step q14_ hb); have n3_ := Aside0.mk (hbox); have n4_ := Aside0.mk ((q99_ : w.heap.size ≤ gb472)); have n5_ := Aside0.mk ((q99_ : w.heap.size ≤ gb472)); have n6_ := Aside0.mk ((q66_ : gb457 ≠ gb472)); have n7_ := Aside0.mk ((q67_ : gb472 ≠ gb457)); clear HO464 BK457 HB; have HO464 := n0_; have BK457 := n1_; have HB := n2_; have BK472 := n3_; have GW472 := n4_; have GE472 := n5_; have NB457_472 := n6_; have NB472_457 := n7_; clear n0_ n1_ n2_ n3_ n4_ n5_ n6_ n7_; clear hb hbox hg; have hnb39 := NB472_457.1; have hnc39 := NB457_472.1; have hcz40_0 : w38.cell? ⟨gb472, 0, none⟩ = some (.string (⟨#[]⟩ : ByteArray)) := (bc_ BK472.1 0).trans rfl; have hcz40_1 : w38.cell? ⟨gb472, 1, none⟩ = some (.string (⟨#[]⟩ : ByteArray)) := (bc_ BK472.1 1).trans rfl; have hcz40_2 : w38.cell? ⟨gb472, 2, none⟩ = some (.slice none 0 0) := (bc_ BK472.1 2).trans rfl; have hcz40_3 : w38.cell? ⟨gb472, 3, none⟩ = some (.string (⟨#[]⟩ : ByteArray)) := (bc_ BK472.1 3).trans rfl; have hcz40_4 : w38.cell? ⟨gb472, 4, none⟩ = some (.string (⟨#[]⟩ : ByteArray)) := (bc_ BK472.1 4).trans rfl; have hcz40_5 : w38.cell? ⟨gb472, 5, none⟩ = some (.bool false) := (bc_ BK472.1 5).trans rfl; have hcz40_6 : w38.cell? ⟨gb472, 6, none⟩ = some (.int .i64 0) := (bc_ BK472.1 6).trans rfl; have hcz40_7 : w38.cell? ⟨gb472, 7, none⟩ = some (.bool false) := (bc_ BK472.1 7).trans rfl; have hcz40_8 : w38.cell? ⟨gb472, 8, none⟩ = some (.bool false) := (bc_ BK472.1 8).trans rfl; have hfz40_0 := bF_ BK472.1 0; have hfz40_1 := bF_ BK472.1 1; have hfz40_2 := bF_ BK472.1 2; have hfz40_3 := bF_ BK472.1 3; have hfz40_4 := bF_ BK472.1 4; have hfz40_5 := bF_ BK472.1 5; have hfz40_6 := bF_ BK472.1 6; have hfz40_7 := bF_ BK472.1 7; have hfz40_8 := bF_ BK472.1 8; obtain ⟨Ao41, co41, eo41⟩ := Kd.R_slice HO464.1; subst eo41) | ((with_reducible refine gate_callee (f := 66) rfl ?_); refine goesL_ (some 48) rfl rfl Tryz.func66 (by kernel_rfl) rfl #[.slice A0 l0.length c0, .int .i64 t458] rfl q2_ ?_; (with_reducible refine (impl_GetChunks.calls k _ _ l0 t458 t473 t474 t475 _ ?side1 ?side2 A17.1 ?side99).mono ?_); (case side1 => exact Kd.C_below HR0.1 q38_); (case side2 => exact q121_); (case side99 => exact q17_); rintro e w42 ⟨rfl, hb⟩; refine ⟨_, rfl, ?_⟩; have n0_ := Aside0.mk (Kd.R_below (by (with_reducible repeat (first | apply rA_ | apply rN_ | apply rD_)); exact (Kd.R_mono (rF_ (p := ⟨gb472, 8, none⟩) (rF_ (p := ⟨gb472, 7, none⟩) (rF_ (p := ⟨gb472, 6, none⟩) (rF_ (p := ⟨gb472, 5, none⟩) (rF_ (p := ⟨gb472, 4, none⟩) (rF_ (p := ⟨gb472, 3, none⟩) (rF_ (p := ⟨gb472, 2, none⟩) (rF_ (p := ⟨gb472, 1, none⟩) (rF_ (p := ⟨gb472, 0, none⟩) (Kd.R_types HO464.1 BK472.1 (by decide)) (fun _ hk => hk.2) (.string t460)) (fun _ hk => hk.2) (.string t461)) (fun _ hk => hk.2) (.slice Ao41 t462.length co41)) (fun _ hk => hk.2) (.string t465)) (fun _ hk => hk.2) (.string t466)) (fun _ hk => hk.2) (.bool true)) (fun _ hk => hk.2) (.int .i64 t468)) (fun _ hk => hk.2) (.bool t469)) (fun _ hk => hk.2) (.bool t470)) (fun _ h_ => h_.1))) hb); have n1_ := Aside0.mk (bB_ (g := gb457) (o := .cells #[.string (⟨#[]⟩ : ByteArray), .string (⟨#[]⟩ : ByteArray), .slice none 0 0, .string (⟨#[]⟩ : ByteArray)] 64 (0, 0)) q25_ hb); have n2_ := Aside0.mk (bB_ (g := gb472) (o := .cells #[.string t460, .string t461, .slice Ao41 t462.length co41, .string t465, .string t466, .bool true, .int .i64 t468, .bool t469, .bool t470] 113 (0, 0)) (by (with_reducible repeat (first | refine bN_ ?_ _ | refine bD_ ?_ | refine bA_ ?_ _)); refine blk_put (cs := #[.string t460, .string t461, .slice Ao41 t462.length co41, .string t465, .string t466, .bool true, .int .i64 t468, .bool t469, .bool false]) ?_ 8 _ rfl; (with_reducible repeat (first | refine bN_ ?_ _ | refine bD_ ?_ | refine bA_ ?_ _)); refine blk_put (cs := #[.string t460, .string t461, .slice Ao41 t462.length co41, .string t465, .string t466, .bool true, .int .i64 t468, .bool false, .bool false]) ?_ 7 _ rfl; (with_reducible repeat (first | refine bN_ ?_ _ | refine bD_ ?_ | refine bA_ ?_ _)); refine blk_put (cs := #[.string t460, .string t461, .slice Ao41 t462.length co41, .string t465, .string t466, .bool true, .int .i64 0, .bool false, .bool false]) ?_ 6 _ rfl; (with_reducible repeat (first | refine bN_ ?_ _ | refine bD_ ?_ | refine bA_ ?_ _)); refine blk_put (cs := #[.string t460, .string t461, .slice Ao41 t462.length co41, .string t465, .string t466, .bool false, .int .i64 0, .bool false, .bool false]) ?_ 5 _ rfl; (with_reducible repeat (first | refine bN_ ?_ _ | refine bD_ ?_ | refine bA_ ?_ _)); refine blk_put (cs := #[.string t460, .string t461, .slice Ao41 t462.length co41, .string t465, .string (⟨#[]⟩ : ByteArray), .bool false, .int .i64 0, .bool false, .bool false]) ?_ 4 _ rfl; (with_reducible repeat (first | refine bN_ ?_ _ | refine bD_ ?_ | refine bA_ ?_ _)); refine blk_put (cs := #[.string t460, .string t461, .slice Ao41 t462.length co41, .string (⟨#[]⟩ : ByteArray), .string (⟨#[]⟩ : ByteArray), .bool false, .int .i64 0, .bool false, .bool false]) ?_ 3 _ rfl; (with_reducible repeat (first | refine bN_ ?_ _ | refine bD_ ?_ | refine bA_ ?_ _)); refine blk_put (cs := #[.string t460, .string t461, .slice none 0 0, .string (⟨#[]⟩ : ByteArray), .string (⟨#[]⟩ : ByteArray), .bool false, .int .i64 0, .bool false, .bool false]) ?_ 2 _ rfl; (with_reducible repeat (first | refine bN_ ?_ _ | refine bD_ ?_ | refine bA_ ?_ _)); refine blk_put (cs := #[.string t460, .string (⟨#[]⟩ : ByteArray), .slice none 0 0, .string (⟨#[]⟩ : ByteArray), .string (⟨#[]⟩ : ByteArray), .bool false, .int .i64 0, .bool false, .bool false]) ?_ 1 _ rfl; (with_reducible repeat (first | refine bN_ ?_ _ | refine bD_ ?_ | refine bA_ ?_ _)); refine blk_put (cs := #[.string (⟨#[]⟩ : ByteArray), .string (⟨#[]⟩ : ByteArray), .slice none 0 0, .string (⟨#[]⟩ : ByteArray), .string (⟨#[]⟩ : ByteArray), .bool false, .int .i64 0, .bool false, .bool false]) ?_ 0 _ rfl; (with_reducible repeat (first | refine bN_ ?_ _ | refine bD_ ?_ | refine bA_ ?_ _)); exact BK472.1) hb); have n3_ := Aside0.mk (below_step q38_ hb); clear HO464 BK457; clear BK472 HB; have HO464 := n0_; have BK457 := n1_; have BK472 := n2_; have HB := n3_; clear n0_ n1_ n2_ n3_; (try clear hb); (try clear hb2); (try clear hk); (try clear hi); have hcz43_0 : w42.cell? ⟨gb472, 0, none⟩ = some (.string t460) := (bc_ BK472.1 0).trans rfl; have hcz43_1 : w42.cell? ⟨gb472, 1, none⟩ = some (.string t461) := (bc_ BK472.1 1).trans rfl; have hcz43_2 : w42.cell? ⟨gb472, 2, none⟩ = some (.slice Ao41 t462.length co41) := (bc_ BK472.1 2).trans rfl; have hcz43_3 : w42.cell? ⟨gb472, 3, none⟩ = some (.string t465) := (bc_ BK472.1 3).trans rfl; have hcz43_4 : w42.cell? ⟨gb472, 4, none⟩ = some (.string t466) := (bc_ BK472.1 4).trans rfl; have hcz43_5 : w42.cell? ⟨gb472, 5, none⟩ = some (.bool true) := (bc_ BK472.1 5).trans rfl; have hcz43_6 : w42.cell? ⟨gb472, 6, none⟩ = some (.int .i64 t468) := (bc_ BK472.1 6).trans rfl; have hcz43_7 : w42.cell? ⟨gb472, 7, none⟩ = some (.bool t469) := (bc_ BK472.1 7).trans rfl; have hcz43_8 : w42.cell? ⟨gb472, 8, none⟩ = some (.bool t470) := (bc_ BK472.1 8).trans rfl; have hfz43_0 := bF_ BK472.1 0; have hfz43_1 := bF_ BK472.1 1; have hfz43_2 := bF_ BK472.1 2; have hfz43_3 := bF_ BK472.1 3; have hfz43_4 := bF_ BK472.1 4; have hfz43_5 := bF_ BK472.1 5; have hfz43_6 := bF_ BK472.1 6; have hfz43_7 := bF_ BK472.1 7; have hfz43_8 := bF_ BK472.1 8; have hcz44_0 : w42.cell? ⟨gb457, 0, none⟩ = some (.string (⟨#[]⟩ : ByteArray)) := (bc_ BK457.1 0).trans rfl; have hcz44_1 : w42.cell? ⟨gb457, 1, none⟩ = some (.string (⟨#[]⟩ : ByteArray)) := (bc_ BK457.1 1).trans rfl; have hcz44_2 : w42.cell? ⟨gb457, 2, none⟩ = some (.slice none 0 0) := (bc_ BK457.1 2).trans rfl; have hcz44_3 : w42.cell? ⟨gb457, 3, none⟩ = some (.string (⟨#[]⟩ : ByteArray)) := (bc_ BK457.1 3).trans rfl; have hfz44_0 := bF_ BK457.1 0; have hfz44_1 := bF_ BK457.1 1; have hfz44_2 := bF_ BK457.1 2; have hfz44_3 := bF_ BK457.1 3))
       refine bodyPost_ret (results_ctt rfl _ _ gb457 64 #[.string (⟨#[]⟩ : ByteArray), .string (⟨#[]⟩ : ByteArray), .slice none 0 0, .string (⟨#[]⟩ : ByteArray)] (0, 0) _ rfl (by (with_reducible repeat (first | refine bN_ ?_ _ | refine bD_ ?_ | refine bA_ ?_ _)); refine blk_put (cs := #[.string (⟨#[]⟩ : ByteArray), .string (⟨#[]⟩ : ByteArray), .slice none 0 0, .string (⟨#[]⟩ : ByteArray)]) ?_ 3 _ rfl; (with_reducible repeat (first | refine bN_ ?_ _ | refine bD_ ?_ | refine bA_ ?_ _)); refine blk_put (cs := #[.string (⟨#[]⟩ : ByteArray), .string (⟨#[]⟩ : ByteArray), .slice none 0 0, .string (⟨#[]⟩ : ByteArray)]) ?_ 2 _ rfl; (with_reducible repeat (first | refine bN_ ?_ _ | refine bD_ ?_ | refine bA_ ?_ _)); refine blk_put (cs := #[.string (⟨#[]⟩ : ByteArray), .string (⟨#[]⟩ : ByteArray), .slice none 0 0, .string (⟨#[]⟩ : ByteArray)]) ?_ 1 _ rfl; (with_reducible repeat (first | refine bN_ ?_ _ | refine bD_ ?_ | refine bA_ ?_ _)); refine blk_put (cs := #[.string (⟨#[]⟩ : ByteArray), .string (⟨#[]⟩ : ByteArray), .slice none 0 0, .string (⟨#[]⟩ : ByteArray)]) ?_ 0 _ rfl; (with_reducible repeat (first | refine bN_ ?_ _ | refine bD_ ?_ | refine bA_ ?_ _)); refine blk_far ?_ NB457_472.1 _; (with_reducible repeat (first | refine bN_ ?_ _ | refine bD_ ?_ | refine bA_ ?_ _)); exact BK457.1) Tryz.underlying64 rfl (by kernel_rfl)) rfl ?_
       exact ⟨_, q69_, q77_, q38_⟩
     ·replace c16 := Bool.eq_false_iff.mpr c16
      subst c16
      rw [if_neg (show ¬ (false = true) by decide)] at H
      by_cases c45 : (wrap64 (t458 + t468)) > (l0.length : Int)
      ·rw [if_pos c45] at H
       have c45b0 : decide ((l0.length : Int) < (wrap64 (t458 + t468))) = true := decide_eq_true c45
       clear c45
       by_cases c46 : 1 = 0
       ·exact absurd c46 (by decide)
       ·rw [if_neg c46] at H
        have c46b0 : (1 == 0) = false := beq_eq_false_iff_ne.mpr c46
        have c46b1 : (1 != 0) = true := bne_iff_ne.mpr c46
        simp only [Option.some.injEq, Prod.mk.injEq] at H
        obtain ⟨rfl, rfl, rfl, rfl, rfl, rfl⟩ := H
        go_enter Tryz.func52, Tryz.ntmps52
        go_wp2_with (first | ((with_reducible refine gate_dst (N := 2) rfl ?_); refine box_event ?hg (N := 2) ?hd (cs := #[.string (⟨#[]⟩ : ByteArray), .string (⟨#[]⟩ : ByteArray), .slice none 0 0, .string (⟨#[]⟩ : ByteArray)]) (t := 64) ?hr ?_; (case hd => rfl); (case hg => rfl); (case hr => exact q26_); intro gb457 hg w58 hbox hb; have n0_ := Aside0.mk (below_step q1_ hb); have n1_ := Aside0.mk (hbox); have n2_ := Aside0.mk ((q40_ : w.heap.size ≤ gb457)); have n3_ := Aside0.mk ((q40_ : w.heap.size ≤ gb457)); clear HB; have HB := n0_; have BK457 := n1_; have GW457 := n2_; have GE457 := n3_; clear n0_ n1_ n2_ n3_; clear hb hbox hg) | ((with_reducible refine gate_callee (f := 54) rfl ?_); refine goesL_ (some 10) rfl rfl Tryz.func54 (by kernel_rfl) rfl #[.slice A0 l0.length c0] rfl q2_ ?_; (with_reducible refine (impl_HeadEnd.calls _ _ l0 t458 _ ?side1 ?side2 A2.1 ?side99).mono ?_); (case side1 => exact q42_); (case side2 => exact q121_); (case side99 => exact q17_); rintro e w59 ⟨rfl, hb⟩; refine ⟨_, rfl, ?_⟩; have n0_ := Aside0.mk (bB_ (g := gb457) (o := .cells #[.string (⟨#[]⟩ : ByteArray), .string (⟨#[]⟩ : ByteArray), .slice none 0 0, .string (⟨#[]⟩ : ByteArray)] 64 (0, 0)) q23_ hb); have n1_ := Aside0.mk (below_step q14_ hb); clear BK457 HB; have BK457 := n0_; have HB := n1_; clear n0_ n1_; (try clear hb); (try clear hb2); (try clear hk); (try clear hi); obtain ⟨i060, hi060, _, hsz60, _⟩ := info_parts info5; obtain ⟨hcut60, hA60, hC60⟩ := print_take_of (P := Tryz.prog) (Value.int .u8) 0 22 5 .i64 Tryz.underlying22 hi060 hsz60 A0 c0 l0 (ji11) (of_decide_eq_true q4_) (of_decide_eq_true q4_) HC0.1; have HR459 := Aside0.mk (Kd.C_of_reads (h1 := fun _ => rfl) (hA60 _ (Kd.reads_of_C HR0.1))); have HC459 := Aside0.mk hC60; clear hA60 hC60 hi060 hsz60; have hq_ := (Kd.C_below HR459.1 HB.1); rw [show (l0.take ((ji11) : Int).toNat).length = (ji11).toNat from q92_] at hq_; have hcv61 := Kd.C_string (P := Tryz.prog) (A := A0) (c := c0) Tryz.underlying22 Tryz.underlying5 Tryz.underlying9 hq_; have hcv62 := fun nq_ : Nat => Kd.C_string (P := Tryz.prog) (A := A0) (c := c0) Tryz.underlying22 Tryz.underlying5 Tryz.underlying9 (Kd.C_drewN hq_ nq_); clear hq_) | ((with_reducible refine gate_callee (f := 108) rfl ?_); refine goesL_ (some 24) rfl rfl Tryz.func108 (by kernel_rfl) rfl #[.string (strOfNums (l0.take ((ji11) : Int).toNat))] rfl q71_ ?_; (with_reducible refine (impl_readHead.calls k (strOfNums (l0.take ((ji11) : Int).toNat)) t460 t461 t462 t465 t466 false t468 t469 t470 t471 _ A14.1 ?side99).mono ?_); (case side99 => exact q17_); rintro e w63 ⟨v463, rfl, ho0, hb⟩; refine ⟨_, rfl, ?_⟩; have n0_ := Aside0.mk (Kd.R_lower ho0 (below_size q14_)); have n1_ := Aside0.mk (bB_ (g := gb457) (o := .cells #[.string (⟨#[]⟩ : ByteArray), .string (⟨#[]⟩ : ByteArray), .slice none 0 0, .string (⟨#[]⟩ : ByteArray)] 64 (0, 0)) q23_ hb); have n2_ := Aside0.mk (below_step q14_ hb); clear BK457 HB; have HO464 := n0_; have BK457 := n1_; have HB := n2_; clear n0_ n1_ n2_; (try clear hb); (try clear hb2); (try clear hk); (try clear hi); (try clear ho0)) | ((with_reducible refine gate_dst (N := 6) rfl ?_); refine box_event ?hg (N := 6) ?hd (cs := #[.string (⟨#[]⟩ : ByteArray), .string (⟨#[]⟩ : ByteArray), .slice none 0 0, .string (⟨#[]⟩ : ByteArray), .string (⟨#[]⟩ : ByteArray), .bool false, .int .i64 0, .bool false, .bool false]) (t := 113) ?hr ?_; (case hd => rfl); (case hg => rfl); (case hr => exact q26_); intro gb472 hg w64 hbox hb; have n0_ := Aside0.mk (Kd.R_below q87_ hb); have n1_ := Aside0.mk (bB_ (g := gb457) (o := .cells #[.string (⟨#[]⟩ : ByteArray), .string (⟨#[]⟩ : ByteArray), .slice none 0 0, .string (⟨#[]⟩ : ByteArray)] 64 (0, 0)) q23_ hb); have n2_ := Aside0.mk (below_step q14_ hb); have n3_ := Aside0.mk (hbox); have n4_ := Aside0.mk ((q99_ : w.heap.size ≤ gb472)); have n5_ := Aside0.mk ((q99_ : w.heap.size ≤ gb472)); have n6_ := Aside0.mk ((q66_ : gb457 ≠ gb472)); have n7_ := Aside0.mk ((q67_ : gb472 ≠ gb457)); clear HO464 BK457 HB; have HO464 := n0_; have BK457 := n1_; have HB := n2_; have BK472 := n3_; have GW472 := n4_; have GE472 := n5_; have NB457_472 := n6_; have NB472_457 := n7_; clear n0_ n1_ n2_ n3_ n4_ n5_ n6_ n7_; clear hb hbox hg; have hnb65 := NB472_457.1; have hnc65 := NB457_472.1; have hcz66_0 : w64.cell? ⟨gb472, 0, none⟩ = some (.string (⟨#[]⟩ : ByteArray)) := (bc_ BK472.1 0).trans rfl; have hcz66_1 : w64.cell? ⟨gb472, 1, none⟩ = some (.string (⟨#[]⟩ : ByteArray)) := (bc_ BK472.1 1).trans rfl; have hcz66_2 : w64.cell? ⟨gb472, 2, none⟩ = some (.slice none 0 0) := (bc_ BK472.1 2).trans rfl; have hcz66_3 : w64.cell? ⟨gb472, 3, none⟩ = some (.string (⟨#[]⟩ : ByteArray)) := (bc_ BK472.1 3).trans rfl; have hcz66_4 : w64.cell? ⟨gb472, 4, none⟩ = some (.string (⟨#[]⟩ : ByteArray)) := (bc_ BK472.1 4).trans rfl; have hcz66_5 : w64.cell? ⟨gb472, 5, none⟩ = some (.bool false) := (bc_ BK472.1 5).trans rfl; have hcz66_6 : w64.cell? ⟨gb472, 6, none⟩ = some (.int .i64 0) := (bc_ BK472.1 6).trans rfl; have hcz66_7 : w64.cell? ⟨gb472, 7, none⟩ = some (.bool false) := (bc_ BK472.1 7).trans rfl; have hcz66_8 : w64.cell? ⟨gb472, 8, none⟩ = some (.bool false) := (bc_ BK472.1 8).trans rfl; have hfz66_0 := bF_ BK472.1 0; have hfz66_1 := bF_ BK472.1 1; have hfz66_2 := bF_ BK472.1 2; have hfz66_3 := bF_ BK472.1 3; have hfz66_4 := bF_ BK472.1 4; have hfz66_5 := bF_ BK472.1 5; have hfz66_6 := bF_ BK472.1 6; have hfz66_7 := bF_ BK472.1 7; have hfz66_8 := bF_ BK472.1 8; obtain ⟨Ao67, co67, eo67⟩ := Kd.R_slice HO464.1; subst eo67; have hcz68_0 : w64.cell? ⟨gb457, 0, none⟩ = some (.string (⟨#[]⟩ : ByteArray)) := (bc_ BK457.1 0).trans rfl; have hcz68_1 : w64.cell? ⟨gb457, 1, none⟩ = some (.string (⟨#[]⟩ : ByteArray)) := (bc_ BK457.1 1).trans rfl; have hcz68_2 : w64.cell? ⟨gb457, 2, none⟩ = some (.slice none 0 0) := (bc_ BK457.1 2).trans rfl; have hcz68_3 : w64.cell? ⟨gb457, 3, none⟩ = some (.string (⟨#[]⟩ : ByteArray)) := (bc_ BK457.1 3).trans rfl; have hfz68_0 := bF_ BK457.1 0; have hfz68_1 := bF_ BK457.1 1; have hfz68_2 := bF_ BK457.1 2; have hfz68_3 := bF_ BK457.1 3))
        refine bodyPost_ret (results_ctt rfl _ _ gb457 64 #[.string (⟨#[]⟩ : ByteArray), .string (⟨#[]⟩ : ByteArray), .slice none 0 0, .string (⟨#[]⟩ : ByteArray)] (0, 0) _ rfl (by (with_reducible repeat (first | refine bN_ ?_ _ | refine bD_ ?_ | refine bA_ ?_ _)); refine blk_put (cs := #[.string (⟨#[]⟩ : ByteArray), .string (⟨#[]⟩ : ByteArray), .slice none 0 0, .string (⟨#[]⟩ : ByteArray)]) ?_ 3 _ rfl; (with_reducible repeat (first | refine bN_ ?_ _ | refine bD_ ?_ | refine bA_ ?_ _)); refine blk_put (cs := #[.string (⟨#[]⟩ : ByteArray), .string (⟨#[]⟩ : ByteArray), .slice none 0 0, .string (⟨#[]⟩ : ByteArray)]) ?_ 2 _ rfl; (with_reducible repeat (first | refine bN_ ?_ _ | refine bD_ ?_ | refine bA_ ?_ _)); refine blk_put (cs := #[.string (⟨#[]⟩ : ByteArray), .string (⟨#[]⟩ : ByteArray), .slice none 0 0, .string (⟨#[]⟩ : ByteArray)]) ?_ 1 _ rfl; (with_reducible repeat (first | refine bN_ ?_ _ | refine bD_ ?_ | refine bA_ ?_ _)); refine blk_put (cs := #[.string (⟨#[]⟩ : ByteArray), .string (⟨#[]⟩ : ByteArray), .slice none 0 0, .string (⟨#[]⟩ : ByteArray)]) ?_ 0 _ rfl; (with_reducible repeat (first | refine bN_ ?_ _ | refine bD_ ?_ | refine bA_ ?_ _)); refine blk_far ?_ NB457_472.1 _; (with_reducible repeat (first | refine bN_ ?_ _ | refine bD_ ?_ | refine bA_ ?_ _)); refine blk_far ?_ NB457_472.1 _; (with_reducible repeat (first | refine bN_ ?_ _ | refine bD_ ?_ | refine bA_ ?_ _)); refine blk_far ?_ NB457_472.1 _; (with_reducible repeat (first | refine bN_ ?_ _ | refine bD_ ?_ | refine bA_ ?_ _)); refine blk_far ?_ NB457_472.1 _; (with_reducible repeat (first | refine bN_ ?_ _ | refine bD_ ?_ | refine bA_ ?_ _)); refine blk_far ?_ NB457_472.1 _; (with_reducible repeat (first | refine bN_ ?_ _ | refine bD_ ?_ | refine bA_ ?_ _)); refine blk_far ?_ NB457_472.1 _; (with_reducible repeat (first | refine bN_ ?_ _ | refine bD_ ?_ | refine bA_ ?_ _)); refine blk_far ?_ NB457_472.1 _; (with_reducible repeat (first | refine bN_ ?_ _ | refine bD_ ?_ | refine bA_ ?_ _)); refine blk_far ?_ NB457_472.1 _; (with_reducible repeat (first | refine bN_ ?_ _ | refine bD_ ?_ | refine bA_ ?_ _)); refine blk_far ?_ NB457_472.1 _; (with_reducible repeat (first | refine bN_ ?_ _ | refine bD_ ?_ | refine bA_ ?_ _)); exact BK457.1) Tryz.underlying64 rfl (by kernel_rfl)) rfl ?_
        exact ⟨_, q69_, q77_, q38_⟩
      ·rw [if_neg c45] at H
       have c45b0 : decide ((l0.length : Int) < (wrap64 (t458 + t468))) = false := decide_eq_false c45
       clear c45
       by_cases c69 : 0 ≤ t458
       ·rw [if_pos c69] at H
        have c69b0 := eq_true c69
        have c69b1 : decide (0 ≤ t458) = true := decide_eq_true c69
        clear c69
        by_cases c70 : t458 ≤ (wrap64 (t458 + t468))
        ·rw [if_pos c70] at H
         have c70b0 := eq_true c70
         have c70b1 : decide (t458 ≤ (wrap64 (t458 + t468))) = true := decide_eq_true c70
         by_cases c71 : (wrap64 (t458 + t468)) ≤ (l0.length : Int)
         ·rw [if_pos c71] at H
          have c71b0 := eq_true c71
          have c71b1 : decide ((wrap64 (t458 + t468)) ≤ (l0.length : Int)) = true := decide_eq_true c71
          simp only [Option.some.injEq, Prod.mk.injEq] at H
          obtain ⟨rfl, rfl, rfl, rfl, rfl, rfl⟩ := H
          go_enter Tryz.func52, Tryz.ntmps52
          go_wp2_with (first | ((with_reducible refine gate_dst (N := 2) rfl ?_); refine box_event ?hg (N := 2) ?hd (cs := #[.string (⟨#[]⟩ : ByteArray), .string (⟨#[]⟩ : ByteArray), .slice none 0 0, .string (⟨#[]⟩ : ByteArray)]) (t := 64) ?hr ?_; (case hd => rfl); (case hg => rfl); (case hr => exact q26_); intro gb457 hg w72 hbox hb; have n0_ := Aside0.mk (below_step q1_ hb); have n1_ := Aside0.mk (hbox); have n2_ := Aside0.mk ((q40_ : w.heap.size ≤ gb457)); have n3_ := Aside0.mk ((q40_ : w.heap.size ≤ gb457)); clear HB; have HB := n0_; have BK457 := n1_; have GW457 := n2_; have GE457 := n3_; clear n0_ n1_ n2_ n3_; clear hb hbox hg) | ((with_reducible refine gate_callee (f := 54) rfl ?_); refine goesL_ (some 10) rfl rfl Tryz.func54 (by kernel_rfl) rfl #[.slice A0 l0.length c0] rfl q2_ ?_; (with_reducible refine (impl_HeadEnd.calls _ _ l0 t458 _ ?side1 ?side2 A2.1 ?side99).mono ?_); (case side1 => exact q42_); (case side2 => exact q121_); (case side99 => exact q17_); rintro e w73 ⟨rfl, hb⟩; refine ⟨_, rfl, ?_⟩; have n0_ := Aside0.mk (bB_ (g := gb457) (o := .cells #[.string (⟨#[]⟩ : ByteArray), .string (⟨#[]⟩ : ByteArray), .slice none 0 0, .string (⟨#[]⟩ : ByteArray)] 64 (0, 0)) q23_ hb); have n1_ := Aside0.mk (below_step q14_ hb); clear BK457 HB; have BK457 := n0_; have HB := n1_; clear n0_ n1_; (try clear hb); (try clear hb2); (try clear hk); (try clear hi); obtain ⟨i074, hi074, _, hsz74, _⟩ := info_parts info5; obtain ⟨hcut74, hA74, hC74⟩ := print_take_of (P := Tryz.prog) (Value.int .u8) 0 22 5 .i64 Tryz.underlying22 hi074 hsz74 A0 c0 l0 (ji11) (of_decide_eq_true q4_) (of_decide_eq_true q4_) HC0.1; have HR459 := Aside0.mk (Kd.C_of_reads (h1 := fun _ => rfl) (hA74 _ (Kd.reads_of_C HR0.1))); have HC459 := Aside0.mk hC74; clear hA74 hC74 hi074 hsz74; have hq_ := (Kd.C_below HR459.1 HB.1); rw [show (l0.take ((ji11) : Int).toNat).length = (ji11).toNat from q92_] at hq_; have hcv75 := Kd.C_string (P := Tryz.prog) (A := A0) (c := c0) Tryz.underlying22 Tryz.underlying5 Tryz.underlying9 hq_; have hcv76 := fun nq_ : Nat => Kd.C_string (P := Tryz.prog) (A := A0) (c := c0) Tryz.underlying22 Tryz.underlying5 Tryz.underlying9 (Kd.C_drewN hq_ nq_); clear hq_) | ((with_reducible refine gate_callee (f := 108) rfl ?_); refine goesL_ (some 24) rfl rfl Tryz.func108 (by kernel_rfl) rfl #[.string (strOfNums (l0.take ((ji11) : Int).toNat))] rfl q71_ ?_; (with_reducible refine (impl_readHead.calls k (strOfNums (l0.take ((ji11) : Int).toNat)) t460 t461 t462 t465 t466 false t468 t469 t470 t471 _ A14.1 ?side99).mono ?_); (case side99 => exact q17_); rintro e w77 ⟨v463, rfl, ho0, hb⟩; refine ⟨_, rfl, ?_⟩; have n0_ := Aside0.mk (Kd.R_lower ho0 (below_size q14_)); have n1_ := Aside0.mk (bB_ (g := gb457) (o := .cells #[.string (⟨#[]⟩ : ByteArray), .string (⟨#[]⟩ : ByteArray), .slice none 0 0, .string (⟨#[]⟩ : ByteArray)] 64 (0, 0)) q23_ hb); have n2_ := Aside0.mk (below_step q14_ hb); clear BK457 HB; have HO464 := n0_; have BK457 := n1_; have HB := n2_; clear n0_ n1_ n2_; (try clear hb); (try clear hb2); (try clear hk); (try clear hi); (try clear ho0)) | ((with_reducible refine gate_dst (N := 6) rfl ?_); refine box_event ?hg (N := 6) ?hd (cs := #[.string (⟨#[]⟩ : ByteArray), .string (⟨#[]⟩ : ByteArray), .slice none 0 0, .string (⟨#[]⟩ : ByteArray), .string (⟨#[]⟩ : ByteArray), .bool false, .int .i64 0, .bool false, .bool false]) (t := 113) ?hr ?_; (case hd => rfl); (case hg => rfl); (case hr => exact q26_); intro gb472 hg w78 hbox hb; have n0_ := Aside0.mk (Kd.R_below q87_ hb); have n1_ := Aside0.mk (bB_ (g := gb457) (o := .cells #[.string (⟨#[]⟩ : ByteArray), .string (⟨#[]⟩ : ByteArray), .slice none 0 0, .string (⟨#[]⟩ : ByteArray)] 64 (0, 0)) q23_ hb); have n2_ := Aside0.mk (below_step q14_ hb); have n3_ := Aside0.mk (hbox); have n4_ := Aside0.mk ((q99_ : w.heap.size ≤ gb472)); have n5_ := Aside0.mk ((q99_ : w.heap.size ≤ gb472)); have n6_ := Aside0.mk ((q66_ : gb457 ≠ gb472)); have n7_ := Aside0.mk ((q67_ : gb472 ≠ gb457)); clear HO464 BK457 HB; have HO464 := n0_; have BK457 := n1_; have HB := n2_; have BK472 := n3_; have GW472 := n4_; have GE472 := n5_; have NB457_472 := n6_; have NB472_457 := n7_; clear n0_ n1_ n2_ n3_ n4_ n5_ n6_ n7_; clear hb hbox hg; have hnb79 := NB472_457.1; have hnc79 := NB457_472.1; have hcz80_0 : w78.cell? ⟨gb472, 0, none⟩ = some (.string (⟨#[]⟩ : ByteArray)) := (bc_ BK472.1 0).trans rfl; have hcz80_1 : w78.cell? ⟨gb472, 1, none⟩ = some (.string (⟨#[]⟩ : ByteArray)) := (bc_ BK472.1 1).trans rfl; have hcz80_2 : w78.cell? ⟨gb472, 2, none⟩ = some (.slice none 0 0) := (bc_ BK472.1 2).trans rfl; have hcz80_3 : w78.cell? ⟨gb472, 3, none⟩ = some (.string (⟨#[]⟩ : ByteArray)) := (bc_ BK472.1 3).trans rfl; have hcz80_4 : w78.cell? ⟨gb472, 4, none⟩ = some (.string (⟨#[]⟩ : ByteArray)) := (bc_ BK472.1 4).trans rfl; have hcz80_5 : w78.cell? ⟨gb472, 5, none⟩ = some (.bool false) := (bc_ BK472.1 5).trans rfl; have hcz80_6 : w78.cell? ⟨gb472, 6, none⟩ = some (.int .i64 0) := (bc_ BK472.1 6).trans rfl; have hcz80_7 : w78.cell? ⟨gb472, 7, none⟩ = some (.bool false) := (bc_ BK472.1 7).trans rfl; have hcz80_8 : w78.cell? ⟨gb472, 8, none⟩ = some (.bool false) := (bc_ BK472.1 8).trans rfl; have hfz80_0 := bF_ BK472.1 0; have hfz80_1 := bF_ BK472.1 1; have hfz80_2 := bF_ BK472.1 2; have hfz80_3 := bF_ BK472.1 3; have hfz80_4 := bF_ BK472.1 4; have hfz80_5 := bF_ BK472.1 5; have hfz80_6 := bF_ BK472.1 6; have hfz80_7 := bF_ BK472.1 7; have hfz80_8 := bF_ BK472.1 8; obtain ⟨Ao81, co81, eo81⟩ := Kd.R_slice HO464.1; subst eo81) | ((with_reducible refine gate_store (t := 113) (p := 6) rfl ?_); refine store_event (t := 113) (p := 6) (v := ?vo_w82) (w1 := (((((((((w78.setCell ⟨gb472, 0, none⟩ (.string t460)).setCell ⟨gb472, 1, none⟩ (.string t461)).setCell ⟨gb472, 2, none⟩ (.slice Ao81 t462.length co81)).setCell ⟨gb472, 3, none⟩ (.string t465)).setCell ⟨gb472, 4, none⟩ (.string t466)).setCell ⟨gb472, 5, none⟩ (.bool false)).setCell ⟨gb472, 6, none⟩ (.int .i64 t468)).setCell ⟨gb472, 7, none⟩ (.bool t469)).setCell ⟨gb472, 8, none⟩ (.bool t470))) ?hg ?ho ?hn ?hr ?_; (case ho => rfl); (case hg => rfl); (case hn => rfl); (case hr => exact q26_); intro w82 hw; have n0_ : Aside0 (Kd.R k88 88 w82 w.heap.size (fun _ => True) (.slice Ao81 t462.length co81) t462) := ⟨(by rw [hw]; exact (by (with_reducible repeat (first | apply rA_ | apply rN_ | apply rD_)); exact Kd.R_mono (rF_ (p := ⟨gb472, 8, none⟩) (rF_ (p := ⟨gb472, 7, none⟩) (rF_ (p := ⟨gb472, 6, none⟩) (rF_ (p := ⟨gb472, 5, none⟩) (rF_ (p := ⟨gb472, 4, none⟩) (rF_ (p := ⟨gb472, 3, none⟩) (rF_ (p := ⟨gb472, 2, none⟩) (rF_ (p := ⟨gb472, 1, none⟩) (rF_ (p := ⟨gb472, 0, none⟩) (Kd.R_types HO464.1 BK472.1 (by decide)) (fun _ hk => hk.2) (.string t460)) (fun _ hk => hk.2) (.string t461)) (fun _ hk => hk.2) (.slice Ao81 t462.length co81)) (fun _ hk => hk.2) (.string t465)) (fun _ hk => hk.2) (.string t466)) (fun _ hk => hk.2) (.bool false)) (fun _ hk => hk.2) (.int .i64 t468)) (fun _ hk => hk.2) (.bool t469)) (fun _ hk => hk.2) (.bool t470)) (fun _ hk => trivial)))⟩; have n1_ : Aside0 (w82.heap[gb457]? = some (.cells #[.string (⟨#[]⟩ : ByteArray), .string (⟨#[]⟩ : ByteArray), .slice none 0 0, .string (⟨#[]⟩ : ByteArray)] 64 (0, 0))) := ⟨(by rw [hw]; exact q25_)⟩; have n2_ : Aside0 (w82.heap[gb472]? = some (.cells #[.string t460, .string t461, .slice Ao81 t462.length co81, .string t465, .string t466, .bool false, .int .i64 t468, .bool t469, .bool t470] 113 (0, 0))) := ⟨(by rw [hw]; exact (by (with_reducible repeat (first | refine bN_ ?_ _ | refine bD_ ?_ | refine bA_ ?_ _)); refine blk_put (cs := #[.string t460, .string t461, .slice Ao81 t462.length co81, .string t465, .string t466, .bool false, .int .i64 t468, .bool t469, .bool false]) ?_ 8 _ rfl; (with_reducible repeat (first | refine bN_ ?_ _ | refine bD_ ?_ | refine bA_ ?_ _)); refine blk_put (cs := #[.string t460, .string t461, .slice Ao81 t462.length co81, .string t465, .string t466, .bool false, .int .i64 t468, .bool false, .bool false]) ?_ 7 _ rfl; (with_reducible repeat (first | refine bN_ ?_ _ | refine bD_ ?_ | refine bA_ ?_ _)); refine blk_put (cs := #[.string t460, .string t461, .slice Ao81 t462.length co81, .string t465, .string t466, .bool false, .int .i64 0, .bool false, .bool false]) ?_ 6 _ rfl; (with_reducible repeat (first | refine bN_ ?_ _ | refine bD_ ?_ | refine bA_ ?_ _)); refine blk_put (cs := #[.string t460, .string t461, .slice Ao81 t462.length co81, .string t465, .string t466, .bool false, .int .i64 0, .bool false, .bool false]) ?_ 5 _ rfl; (with_reducible repeat (first | refine bN_ ?_ _ | refine bD_ ?_ | refine bA_ ?_ _)); refine blk_put (cs := #[.string t460, .string t461, .slice Ao81 t462.length co81, .string t465, .string (⟨#[]⟩ : ByteArray), .bool false, .int .i64 0, .bool false, .bool false]) ?_ 4 _ rfl; (with_reducible repeat (first | refine bN_ ?_ _ | refine bD_ ?_ | refine bA_ ?_ _)); refine blk_put (cs := #[.string t460, .string t461, .slice Ao81 t462.length co81, .string (⟨#[]⟩ : ByteArray), .string (⟨#[]⟩ : ByteArray), .bool false, .int .i64 0, .bool false, .bool false]) ?_ 3 _ rfl; (with_reducible repeat (first | refine bN_ ?_ _ | refine bD_ ?_ | refine bA_ ?_ _)); refine blk_put (cs := #[.string t460, .string t461, .slice none 0 0, .string (⟨#[]⟩ : ByteArray), .string (⟨#[]⟩ : ByteArray), .bool false, .int .i64 0, .bool false, .bool false]) ?_ 2 _ rfl; (with_reducible repeat (first | refine bN_ ?_ _ | refine bD_ ?_ | refine bA_ ?_ _)); refine blk_put (cs := #[.string t460, .string (⟨#[]⟩ : ByteArray), .slice none 0 0, .string (⟨#[]⟩ : ByteArray), .string (⟨#[]⟩ : ByteArray), .bool false, .int .i64 0, .bool false, .bool false]) ?_ 1 _ rfl; (with_reducible repeat (first | refine bN_ ?_ _ | refine bD_ ?_ | refine bA_ ?_ _)); refine blk_put (cs := #[.string (⟨#[]⟩ : ByteArray), .string (⟨#[]⟩ : ByteArray), .slice none 0 0, .string (⟨#[]⟩ : ByteArray), .string (⟨#[]⟩ : ByteArray), .bool false, .int .i64 0, .bool false, .bool false]) ?_ 0 _ rfl; (with_reducible repeat (first | refine bN_ ?_ _ | refine bD_ ?_ | refine bA_ ?_ _)); exact BK472.1))⟩; have n3_ : Aside0 (Below w.heap.size w w82) := ⟨(by rw [hw]; exact q38_)⟩; clear hw HO464; clear BK457 BK472 HB; have HO464 := n0_; have BK457 := n1_; have BK472 := n2_; have HB := n3_; clear n0_ n1_ n2_ n3_; have hcz83_0 : w82.cell? ⟨gb472, 0, none⟩ = some (.string t460) := (bc_ BK472.1 0).trans rfl; have hcz83_1 : w82.cell? ⟨gb472, 1, none⟩ = some (.string t461) := (bc_ BK472.1 1).trans rfl; have hcz83_2 : w82.cell? ⟨gb472, 2, none⟩ = some (.slice Ao81 t462.length co81) := (bc_ BK472.1 2).trans rfl; have hcz83_3 : w82.cell? ⟨gb472, 3, none⟩ = some (.string t465) := (bc_ BK472.1 3).trans rfl; have hcz83_4 : w82.cell? ⟨gb472, 4, none⟩ = some (.string t466) := (bc_ BK472.1 4).trans rfl; have hcz83_5 : w82.cell? ⟨gb472, 5, none⟩ = some (.bool false) := (bc_ BK472.1 5).trans rfl; have hcz83_6 : w82.cell? ⟨gb472, 6, none⟩ = some (.int .i64 t468) := (bc_ BK472.1 6).trans rfl; have hcz83_7 : w82.cell? ⟨gb472, 7, none⟩ = some (.bool t469) := (bc_ BK472.1 7).trans rfl; have hcz83_8 : w82.cell? ⟨gb472, 8, none⟩ = some (.bool t470) := (bc_ BK472.1 8).trans rfl; have hfz83_0 := bF_ BK472.1 0; have hfz83_1 := bF_ BK472.1 1; have hfz83_2 := bF_ BK472.1 2; have hfz83_3 := bF_ BK472.1 3; have hfz83_4 := bF_ BK472.1 4; have hfz83_5 := bF_ BK472.1 5; have hfz83_6 := bF_ BK472.1 6; have hfz83_7 := bF_ BK472.1 7; have hfz83_8 := bF_ BK472.1 8; obtain ⟨i084, hi084, _, hsz84, _⟩ := info_parts info5; obtain ⟨A84, hcut84, hA84, hC84⟩ := print_mid_of (P := Tryz.prog) (Value.int .u8) 0 22 5 .i64 .i64 Tryz.underlying22 hi084 hsz84 A0 c0 l0 t458 (wrap64 (t458 + t468)) (of_decide_eq_true q4_) (by first | omega | exact of_decide_eq_true q4_) (of_decide_eq_true q4_) HC0.1; have HR476 := Aside0.mk (Kd.C_of_reads (h1 := fun _ => rfl) (hA84 _ (Kd.reads_of_C HR0.1))); have HC476 := Aside0.mk hC84; clear hA84 hC84 hi084 hsz84; have hq_ := (Kd.C_below HR476.1 HB.1); rw [show ((l0.take ((wrap64 (t458 + t468)) : Int).toNat).drop (t458 : Int).toNat).length = ((wrap64 (t458 + t468)).toNat - t458.toNat) from (by rw [List.length_drop, List.length_take]; have h_ : ((wrap64 (t458 + t468)) : Int) ≤ (l0.length : Int) := of_decide_eq_true q4_; omega)] at hq_; have hcv85 := Kd.C_string (P := Tryz.prog) (A := A84) (c := (c0 - t458.toNat)) Tryz.underlying22 Tryz.underlying5 Tryz.underlying9 hq_; have hcv86 := fun nq_ : Nat => Kd.C_string (P := Tryz.prog) (A := A84) (c := (c0 - t458.toNat)) Tryz.underlying22 Tryz.underlying5 Tryz.underlying9 (Kd.C_drewN hq_ nq_); clear hq_; have hcz87_0 : w82.cell? ⟨gb457, 0, none⟩ = some (.string (⟨#[]⟩ : ByteArray)) := (bc_ BK457.1 0).trans rfl; have hcz87_1 : w82.cell? ⟨gb457, 1, none⟩ = some (.string (⟨#[]⟩ : ByteArray)) := (bc_ BK457.1 1).trans rfl; have hcz87_2 : w82.cell? ⟨gb457, 2, none⟩ = some (.slice none 0 0) := (bc_ BK457.1 2).trans rfl; have hcz87_3 : w82.cell? ⟨gb457, 3, none⟩ = some (.string (⟨#[]⟩ : ByteArray)) := (bc_ BK457.1 3).trans rfl; have hfz87_0 := bF_ BK457.1 0; have hfz87_1 := bF_ BK457.1 1; have hfz87_2 := bF_ BK457.1 2; have hfz87_3 := bF_ BK457.1 3))
          refine bodyPost_ret (results_ctt rfl _ _ gb457 64 #[.string t460, .string t461, .slice Ao81 t462.length co81, .string (strOfNums ((l0.take ((wrap64 (t458 + t468)) : Int).toNat).drop (t458 : Int).toNat))] (0, 0) _ rfl (by (with_reducible repeat (first | refine bN_ ?_ _ | refine bD_ ?_ | refine bA_ ?_ _)); refine blk_put (cs := #[.string t460, .string t461, .slice Ao81 t462.length co81, .string (⟨#[]⟩ : ByteArray)]) ?_ 3 _ rfl; (with_reducible repeat (first | refine bN_ ?_ _ | refine bD_ ?_ | refine bA_ ?_ _)); refine blk_put (cs := #[.string t460, .string t461, .slice none 0 0, .string (⟨#[]⟩ : ByteArray)]) ?_ 2 _ rfl; (with_reducible repeat (first | refine bN_ ?_ _ | refine bD_ ?_ | refine bA_ ?_ _)); refine blk_put (cs := #[.string t460, .string (⟨#[]⟩ : ByteArray), .slice none 0 0, .string (⟨#[]⟩ : ByteArray)]) ?_ 1 _ rfl; (with_reducible repeat (first | refine bN_ ?_ _ | refine bD_ ?_ | refine bA_ ?_ _)); refine blk_put (cs := #[.string (⟨#[]⟩ : ByteArray), .string (⟨#[]⟩ : ByteArray), .slice none 0 0, .string (⟨#[]⟩ : ByteArray)]) ?_ 0 _ rfl; (with_reducible repeat (first | refine bN_ ?_ _ | refine bD_ ?_ | refine bA_ ?_ _)); refine blk_far ?_ NB457_472.1 _; (with_reducible repeat (first | refine bN_ ?_ _ | refine bD_ ?_ | refine bA_ ?_ _)); exact BK457.1) Tryz.underlying64 rfl (by kernel_rfl)) rfl ?_
          exact ⟨_, q69_, by (with_reducible repeat (first | apply rA_ | apply rN_ | apply rD_)); exact Kd.R_mono (rF_ (p := ⟨gb457, 3, none⟩) (rF_ (p := ⟨gb457, 2, none⟩) (rF_ (p := ⟨gb457, 1, none⟩) (rF_ (p := ⟨gb457, 0, none⟩) (rF_ (p := ⟨gb472, 3, none⟩) (Kd.R_types (Kd.R_types HO464.1 BK472.1 (by decide)) BK457.1 (by decide)) (fun _ hk => hk.1.2) (.string (strOfNums ((l0.take ((wrap64 (t458 + t468)) : Int).toNat).drop (t458 : Int).toNat)))) (fun _ hk => hk.2) (.string t460)) (fun _ hk => hk.2) (.string t461)) (fun _ hk => hk.2) (.slice Ao81 t462.length co81)) (fun _ hk => hk.2) (.string (strOfNums ((l0.take ((wrap64 (t458 + t468)) : Int).toNat).drop (t458 : Int).toNat)))) (fun _ hk => trivial), q38_⟩
         ·rw [if_neg c71] at H
          exact absurd H (by simp)
        ·rw [if_neg c70] at H
         exact absurd H (by simp)
       ·rw [if_neg c69] at H
        exact absurd H (by simp)
    ·rw [if_neg c15] at H
     have c15b0 : (t471 == 0) = false := beq_eq_false_iff_ne.mpr c15
     have c15b1 : (t471 != 0) = true := bne_iff_ne.mpr c15
     simp only [Option.some.injEq, Prod.mk.injEq] at H
     obtain ⟨rfl, rfl, rfl, rfl, rfl, rfl⟩ := H
     go_enter Tryz.func52, Tryz.ntmps52
     go_wp2_with (first | ((with_reducible refine gate_dst (N := 2) rfl ?_); refine box_event ?hg (N := 2) ?hd (cs := #[.string (⟨#[]⟩ : ByteArray), .string (⟨#[]⟩ : ByteArray), .slice none 0 0, .string (⟨#[]⟩ : ByteArray)]) (t := 64) ?hr ?_; (case hd => rfl); (case hg => rfl); (case hr => exact q26_); intro gb457 hg w88 hbox hb; have n0_ := Aside0.mk (below_step q1_ hb); have n1_ := Aside0.mk (hbox); have n2_ := Aside0.mk ((q40_ : w.heap.size ≤ gb457)); have n3_ := Aside0.mk ((q40_ : w.heap.size ≤ gb457)); clear HB; have HB := n0_; have BK457 := n1_; have GW457 := n2_; have GE457 := n3_; clear n0_ n1_ n2_ n3_; clear hb hbox hg) | ((with_reducible refine gate_callee (f := 54) rfl ?_); refine goesL_ (some 10) rfl rfl Tryz.func54 (by kernel_rfl) rfl #[.slice A0 l0.length c0] rfl q2_ ?_; (with_reducible refine (impl_HeadEnd.calls _ _ l0 t458 _ ?side1 ?side2 A2.1 ?side99).mono ?_); (case side1 => exact q42_); (case side2 => exact q121_); (case side99 => exact q17_); rintro e w89 ⟨rfl, hb⟩; refine ⟨_, rfl, ?_⟩; have n0_ := Aside0.mk (bB_ (g := gb457) (o := .cells #[.string (⟨#[]⟩ : ByteArray), .string (⟨#[]⟩ : ByteArray), .slice none 0 0, .string (⟨#[]⟩ : ByteArray)] 64 (0, 0)) q23_ hb); have n1_ := Aside0.mk (below_step q14_ hb); clear BK457 HB; have BK457 := n0_; have HB := n1_; clear n0_ n1_; (try clear hb); (try clear hb2); (try clear hk); (try clear hi); obtain ⟨i090, hi090, _, hsz90, _⟩ := info_parts info5; obtain ⟨hcut90, hA90, hC90⟩ := print_take_of (P := Tryz.prog) (Value.int .u8) 0 22 5 .i64 Tryz.underlying22 hi090 hsz90 A0 c0 l0 (ji11) (of_decide_eq_true q4_) (of_decide_eq_true q4_) HC0.1; have HR459 := Aside0.mk (Kd.C_of_reads (h1 := fun _ => rfl) (hA90 _ (Kd.reads_of_C HR0.1))); have HC459 := Aside0.mk hC90; clear hA90 hC90 hi090 hsz90; have hq_ := (Kd.C_below HR459.1 HB.1); rw [show (l0.take ((ji11) : Int).toNat).length = (ji11).toNat from q92_] at hq_; have hcv91 := Kd.C_string (P := Tryz.prog) (A := A0) (c := c0) Tryz.underlying22 Tryz.underlying5 Tryz.underlying9 hq_; have hcv92 := fun nq_ : Nat => Kd.C_string (P := Tryz.prog) (A := A0) (c := c0) Tryz.underlying22 Tryz.underlying5 Tryz.underlying9 (Kd.C_drewN hq_ nq_); clear hq_) | ((with_reducible refine gate_callee (f := 108) rfl ?_); refine goesL_ (some 24) rfl rfl Tryz.func108 (by kernel_rfl) rfl #[.string (strOfNums (l0.take ((ji11) : Int).toNat))] rfl q71_ ?_; (with_reducible refine (impl_readHead.calls k (strOfNums (l0.take ((ji11) : Int).toNat)) t460 t461 t462 t465 t466 t467 t468 t469 t470 t471 _ A14.1 ?side99).mono ?_); (case side99 => exact q17_); rintro e w93 ⟨v463, rfl, ho0, hb⟩; refine ⟨_, rfl, ?_⟩; have n0_ := Aside0.mk (Kd.R_lower ho0 (below_size q14_)); have n1_ := Aside0.mk (bB_ (g := gb457) (o := .cells #[.string (⟨#[]⟩ : ByteArray), .string (⟨#[]⟩ : ByteArray), .slice none 0 0, .string (⟨#[]⟩ : ByteArray)] 64 (0, 0)) q23_ hb); have n2_ := Aside0.mk (below_step q14_ hb); clear BK457 HB; have HO464 := n0_; have BK457 := n1_; have HB := n2_; clear n0_ n1_ n2_; (try clear hb); (try clear hb2); (try clear hk); (try clear hi); (try clear ho0)) | ((with_reducible refine gate_dst (N := 6) rfl ?_); refine box_event ?hg (N := 6) ?hd (cs := #[.string (⟨#[]⟩ : ByteArray), .string (⟨#[]⟩ : ByteArray), .slice none 0 0, .string (⟨#[]⟩ : ByteArray), .string (⟨#[]⟩ : ByteArray), .bool false, .int .i64 0, .bool false, .bool false]) (t := 113) ?hr ?_; (case hd => rfl); (case hg => rfl); (case hr => exact q26_); intro gb472 hg w94 hbox hb; have n0_ := Aside0.mk (Kd.R_below q87_ hb); have n1_ := Aside0.mk (bB_ (g := gb457) (o := .cells #[.string (⟨#[]⟩ : ByteArray), .string (⟨#[]⟩ : ByteArray), .slice none 0 0, .string (⟨#[]⟩ : ByteArray)] 64 (0, 0)) q23_ hb); have n2_ := Aside0.mk (below_step q14_ hb); have n3_ := Aside0.mk (hbox); have n4_ := Aside0.mk ((q99_ : w.heap.size ≤ gb472)); have n5_ := Aside0.mk ((q99_ : w.heap.size ≤ gb472)); have n6_ := Aside0.mk ((q66_ : gb457 ≠ gb472)); have n7_ := Aside0.mk ((q67_ : gb472 ≠ gb457)); clear HO464 BK457 HB; have HO464 := n0_; have BK457 := n1_; have HB := n2_; have BK472 := n3_; have GW472 := n4_; have GE472 := n5_; have NB457_472 := n6_; have NB472_457 := n7_; clear n0_ n1_ n2_ n3_ n4_ n5_ n6_ n7_; clear hb hbox hg; have hnb95 := NB472_457.1; have hnc95 := NB457_472.1; have hcz96_0 : w94.cell? ⟨gb472, 0, none⟩ = some (.string (⟨#[]⟩ : ByteArray)) := (bc_ BK472.1 0).trans rfl; have hcz96_1 : w94.cell? ⟨gb472, 1, none⟩ = some (.string (⟨#[]⟩ : ByteArray)) := (bc_ BK472.1 1).trans rfl; have hcz96_2 : w94.cell? ⟨gb472, 2, none⟩ = some (.slice none 0 0) := (bc_ BK472.1 2).trans rfl; have hcz96_3 : w94.cell? ⟨gb472, 3, none⟩ = some (.string (⟨#[]⟩ : ByteArray)) := (bc_ BK472.1 3).trans rfl; have hcz96_4 : w94.cell? ⟨gb472, 4, none⟩ = some (.string (⟨#[]⟩ : ByteArray)) := (bc_ BK472.1 4).trans rfl; have hcz96_5 : w94.cell? ⟨gb472, 5, none⟩ = some (.bool false) := (bc_ BK472.1 5).trans rfl; have hcz96_6 : w94.cell? ⟨gb472, 6, none⟩ = some (.int .i64 0) := (bc_ BK472.1 6).trans rfl; have hcz96_7 : w94.cell? ⟨gb472, 7, none⟩ = some (.bool false) := (bc_ BK472.1 7).trans rfl; have hcz96_8 : w94.cell? ⟨gb472, 8, none⟩ = some (.bool false) := (bc_ BK472.1 8).trans rfl; have hfz96_0 := bF_ BK472.1 0; have hfz96_1 := bF_ BK472.1 1; have hfz96_2 := bF_ BK472.1 2; have hfz96_3 := bF_ BK472.1 3; have hfz96_4 := bF_ BK472.1 4; have hfz96_5 := bF_ BK472.1 5; have hfz96_6 := bF_ BK472.1 6; have hfz96_7 := bF_ BK472.1 7; have hfz96_8 := bF_ BK472.1 8; obtain ⟨Ao97, co97, eo97⟩ := Kd.R_slice HO464.1; subst eo97; have hcz98_0 : w94.cell? ⟨gb457, 0, none⟩ = some (.string (⟨#[]⟩ : ByteArray)) := (bc_ BK457.1 0).trans rfl; have hcz98_1 : w94.cell? ⟨gb457, 1, none⟩ = some (.string (⟨#[]⟩ : ByteArray)) := (bc_ BK457.1 1).trans rfl; have hcz98_2 : w94.cell? ⟨gb457, 2, none⟩ = some (.slice none 0 0) := (bc_ BK457.1 2).trans rfl; have hcz98_3 : w94.cell? ⟨gb457, 3, none⟩ = some (.string (⟨#[]⟩ : ByteArray)) := (bc_ BK457.1 3).trans rfl; have hfz98_0 := bF_ BK457.1 0; have hfz98_1 := bF_ BK457.1 1; have hfz98_2 := bF_ BK457.1 2; have hfz98_3 := bF_ BK457.1 3))
     refine bodyPost_ret (results_ctt rfl _ _ gb457 64 #[.string (⟨#[]⟩ : ByteArray), .string (⟨#[]⟩ : ByteArray), .slice none 0 0, .string (⟨#[]⟩ : ByteArray)] (0, 0) _ rfl (by (with_reducible repeat (first | refine bN_ ?_ _ | refine bD_ ?_ | refine bA_ ?_ _)); refine blk_put (cs := #[.string (⟨#[]⟩ : ByteArray), .string (⟨#[]⟩ : ByteArray), .slice none 0 0, .string (⟨#[]⟩ : ByteArray)]) ?_ 3 _ rfl; (with_reducible repeat (first | refine bN_ ?_ _ | refine bD_ ?_ | refine bA_ ?_ _)); refine blk_put (cs := #[.string (⟨#[]⟩ : ByteArray), .string (⟨#[]⟩ : ByteArray), .slice none 0 0, .string (⟨#[]⟩ : ByteArray)]) ?_ 2 _ rfl; (with_reducible repeat (first | refine bN_ ?_ _ | refine bD_ ?_ | refine bA_ ?_ _)); refine blk_put (cs := #[.string (⟨#[]⟩ : ByteArray), .string (⟨#[]⟩ : ByteArray), .slice none 0 0, .string (⟨#[]⟩ : ByteArray)]) ?_ 1 _ rfl; (with_reducible repeat (first | refine bN_ ?_ _ | refine bD_ ?_ | refine bA_ ?_ _)); refine blk_put (cs := #[.string (⟨#[]⟩ : ByteArray), .string (⟨#[]⟩ : ByteArray), .slice none 0 0, .string (⟨#[]⟩ : ByteArray)]) ?_ 0 _ rfl; (with_reducible repeat (first | refine bN_ ?_ _ | refine bD_ ?_ | refine bA_ ?_ _)); refine blk_far ?_ NB457_472.1 _; (with_reducible repeat (first | refine bN_ ?_ _ | refine bD_ ?_ | refine bA_ ?_ _)); refine blk_far ?_ NB457_472.1 _; (with_reducible repeat (first | refine bN_ ?_ _ | refine bD_ ?_ | refine bA_ ?_ _)); refine blk_far ?_ NB457_472.1 _; (with_reducible repeat (first | refine bN_ ?_ _ | refine bD_ ?_ | refine bA_ ?_ _)); refine blk_far ?_ NB457_472.1 _; (with_reducible repeat (first | refine bN_ ?_ _ | refine bD_ ?_ | refine bA_ ?_ _)); refine blk_far ?_ NB457_472.1 _; (with_reducible repeat (first | refine bN_ ?_ _ | refine bD_ ?_ | refine bA_ ?_ _)); refine blk_far ?_ NB457_472.1 _; (with_reducible repeat (first | refine bN_ ?_ _ | refine bD_ ?_ | refine bA_ ?_ _)); refine blk_far ?_ NB457_472.1 _; (with_reducible repeat (first | refine bN_ ?_ _ | refine bD_ ?_ | refine bA_ ?_ _)); refine blk_far ?_ NB457_472.1 _; (with_reducible repeat (first | refine bN_ ?_ _ | refine bD_ ?_ | refine bA_ ?_ _)); refine blk_far ?_ NB457_472.1 _; (with_reducible repeat (first | refine bN_ ?_ _ | refine bD_ ?_ | refine bA_ ?_ _)); exact BK457.1) Tryz.underlying64 rfl (by kernel_rfl)) rfl ?_
     exact ⟨_, q69_, q77_, q38_⟩
   ·rw [if_neg c13] at H
    exact absurd H (by simp)
  ·rw [if_neg c12] at H
   exact absurd H (by simp)

def laws_at.f (l0 : List Int) (a1 : Int) : Option (Int) := if a1 < (l0.length : Int) then (if 0 ≤ a1 then (some (wrap64 (rd l0 a1))) else (none)) else (some (Int.tmod (wrap64 ((wrap64 (a1 * 31)) + (wrap64 ((l0.length : Int) * 7)))) 256))
theorem laws_at.calls (A0 : Option Addr) (c0 : Nat) (l0 : List Int) (a1 : Int) (r : Int) (w : World) (hr0 : Kd.C (Kd.int .u8) w A0 l0.length l0) (hc0 : l0.length ≤ c0) (h : laws_at.f l0 a1 = some r) :
  Calls Tryz.prog 53 #[.slice A0 l0.length c0, .int .i64 a1] w fun e w' => e = .returned (.int .i64 r) ∧ Drawn0 w w' := by
 have HR0 := Aside0.mk hr0
 have HC0 := Aside0.mk hc0
 clear hr0 hc0
 have H : (if a1 < (l0.length : Int) then (if 0 ≤ a1 then (some (wrap64 (rd l0 a1))) else (none)) else (some (Int.tmod (wrap64 ((wrap64 (a1 * 31)) + (wrap64 ((l0.length : Int) * 7)))) 256))) = some r := h
 clear h
 by_cases c3 : a1 < (l0.length : Int)
 ·rw [if_pos c3] at H
  have c3b0 : decide (a1 < (l0.length : Int)) = true := decide_eq_true c3
  clear c3
  by_cases c4 : 0 ≤ a1
  ·rw [if_pos c4] at H
   have c4b0 : decide (0 ≤ a1) = true := decide_eq_true c4
   clear c4
   obtain rfl := Option.some.inj H
   have p477 : 0 ≤ (a1 : Int) := of_decide_eq_true q4_
   have q477 : a1 < (l0.length : Int) := of_decide_eq_true q4_
   obtain ⟨ad477, e477, hx477_0⟩ := Kd.at_int HR0.1 a1 p477 q477
   cases e477
   replace p477 := eq_true p477
   replace q477 := eq_true q477
   go_enter Tryz.func53, Tryz.ntmps53
   go_wp2
   go_ret
   exact ⟨q3_, q13_⟩
  ·rw [if_neg c4] at H
   exact absurd H (by simp)
 ·rw [if_neg c3] at H
  have c3b0 : decide (a1 < (l0.length : Int)) = false := decide_eq_false c3
  clear c3
  obtain rfl := Option.some.inj H
  go_enter Tryz.func53, Tryz.ntmps53
  go_wp2
  go_ret
  exact ⟨q3_, q13_⟩

def spec_DrawHeadEnd.f (k : Nat) (l0 : List Int) : Option (List Int) := (spec_l1New.f k l0).bind fun bt478 => ((spec_l1Once.f bt478.1 bt478.2.1 bt478.2.2 6).bind fun bt482 => (if bt482.1 = true then ((spec_l1Below.f bt478.1 bt482.2.1 bt482.2.2 5).bind fun bt485 => (if 0 ≤ (wrap64 (394 + bt485.1)) then (if (wrap64 (394 + bt485.1) : Int).toNat ≤ 281474976710656 then ((some (List.replicate (wrap64 (394 + bt485.1) : Int).toNat 0 : List Int)).bind fun y488 => ((some (([13, 10, 13, 10] : List Int) : List Int)).bind fun y491 => (if y488.length + y491.length < 140737488355328 then (some (y488 ++ y491)) else (none)))) else (none)) else (none))) else ((spec_l3Bytes.f k bt478.1 bt482.2.1 bt482.2.2).bind fun bt497 => (some bt497.1))))

theorem spec_DrawHeadEnd.calls (k : Nat) (A0 : Option Addr) (c0 : Nat) (l0 : List Int) (r : List Int) (w : World) (hr0 : Kd.C (Kd.int .u8) w A0 l0.length l0) (hc0 : l0.length ≤ c0) (h : spec_DrawHeadEnd.f k l0 = some r) :
  Calls Tryz.prog 55 #[.slice A0 l0.length c0] w fun e w' => ∃ v0_ : Value, e = .returned (v0_) ∧ Kd.R (Kd.int .u8) 5 w' w.heap.size (fun _ => True) v0_ r ∧ Below w.heap.size w w' := by
 have HR0 := Aside0.mk hr0
 have HC0 := Aside0.mk hc0
 clear hr0 hc0
 have HB := Aside0.mk (Below.refl w.heap.size w)
 have H : ((spec_l1New.f k l0).bind fun bt478 => ((spec_l1Once.f bt478.1 bt478.2.1 bt478.2.2 6).bind fun bt482 => (if bt482.1 = true then ((spec_l1Below.f bt478.1 bt482.2.1 bt482.2.2 5).bind fun bt485 => (if 0 ≤ (wrap64 (394 + bt485.1)) then (if (wrap64 (394 + bt485.1) : Int).toNat ≤ 281474976710656 then ((some (List.replicate (wrap64 (394 + bt485.1) : Int).toNat 0 : List Int)).bind fun y488 => ((some (([13, 10, 13, 10] : List Int) : List Int)).bind fun y491 => (if y488.length + y491.length < 140737488355328 then (some (y488 ++ y491)) else (none)))) else (none)) else (none))) else ((spec_l3Bytes.f k bt478.1 bt482.2.1 bt482.2.2).bind fun bt497 => (some bt497.1))))) = some r := h
 clear h
 replace H := Option.bind_eq_some_iff.mp H
 obtain ⟨⟨t478, t479, t480⟩, A20, H⟩ := H
 replace H : ((spec_l1Once.f t478 t479 t480 6).bind fun bt482 => (if bt482.1 = true then ((spec_l1Below.f t478 bt482.2.1 bt482.2.2 5).bind fun bt485 => (if 0 ≤ (wrap64 (394 + bt485.1)) then (if (wrap64 (394 + bt485.1) : Int).toNat ≤ 281474976710656 then ((some (List.replicate (wrap64 (394 + bt485.1) : Int).toNat 0 : List Int)).bind fun y488 => ((some (([13, 10, 13, 10] : List Int) : List Int)).bind fun y491 => (if y488.length + y491.length < 140737488355328 then (some (y488 ++ y491)) else (none)))) else (none)) else (none))) else ((spec_l3Bytes.f k t478 bt482.2.1 bt482.2.2).bind fun bt497 => (some bt497.1)))) = some r := H
 have A2 := Aside0.mk A20
 clear A20
 replace H := Option.bind_eq_some_iff.mp H
 obtain ⟨⟨t482, t483, t484⟩, A30, H⟩ := H
 replace H : (if t482 = true then ((spec_l1Below.f t478 t483 t484 5).bind fun bt485 => (if 0 ≤ (wrap64 (394 + bt485.1)) then (if (wrap64 (394 + bt485.1) : Int).toNat ≤ 281474976710656 then ((some (List.replicate (wrap64 (394 + bt485.1) : Int).toNat 0 : List Int)).bind fun y488 => ((some (([13, 10, 13, 10] : List Int) : List Int)).bind fun y491 => (if y488.length + y491.length < 140737488355328 then (some (y488 ++ y491)) else (none)))) else (none)) else (none))) else ((spec_l3Bytes.f k t478 t483 t484).bind fun bt497 => (some bt497.1))) = some r := H
 have A3 := Aside0.mk A30
 clear A30
 by_cases c4 : t482 = true
 ·subst c4
  rw [if_pos rfl] at H
  replace H := Option.bind_eq_some_iff.mp H
  obtain ⟨⟨t485, t486, t487⟩, A50, H⟩ := H
  replace H : (if 0 ≤ (wrap64 (394 + t485)) then (if (wrap64 (394 + t485) : Int).toNat ≤ 281474976710656 then ((some (List.replicate (wrap64 (394 + t485) : Int).toNat 0 : List Int)).bind fun y488 => ((some (([13, 10, 13, 10] : List Int) : List Int)).bind fun y491 => (if y488.length + y491.length < 140737488355328 then (some (y488 ++ y491)) else (none)))) else (none)) else (none)) = some r := H
  have A5 := Aside0.mk A50
  clear A50
  obtain ⟨ji6, hji6⟩ : ∃ j_ : Int, (wrap64 (394 + t485)) = j_ := ⟨_, rfl⟩
  replace H : (if 0 ≤ (ji6) then (if (ji6 : Int).toNat ≤ 281474976710656 then ((some (List.replicate (ji6 : Int).toNat 0 : List Int)).bind fun y488 => ((some (([13, 10, 13, 10] : List Int) : List Int)).bind fun y491 => (if y488.length + y491.length < 140737488355328 then (some (y488 ++ y491)) else (none)))) else (none)) else (none)) = some r := by first | (rw [hji6] at H; exact H) | (simp only [hji6] at H ⊢; exact H)
  (try rw [hji6] at A2)
  (try rw [hji6] at A3)
  (try rw [hji6] at A5)
  have hji6w : (IntKind.i64.wrap (394 + t485)) = ji6 := (i64_w _).trans hji6
  by_cases c7 : 0 ≤ (ji6)
  ·rw [if_pos c7] at H
   have c7b0 := eq_true c7
   have c7b1 : decide (0 ≤ (ji6)) = true := decide_eq_true c7
   clear c7
   by_cases c8 : (ji6 : Int).toNat ≤ 281474976710656
   ·rw [if_pos c8] at H
    have c8b0 := eq_true c8
    have c8b1 : decide ((ji6 : Int).toNat ≤ 281474976710656) = true := decide_eq_true c8
    clear c8
    obtain ⟨y488, hy488⟩ : ∃ y_ : List Int, y_ = (List.replicate (ji6 : Int).toNat 0) := ⟨_, rfl⟩
    replace H : ((some (([13, 10, 13, 10] : List Int) : List Int)).bind fun y491 => (if y488.length + y491.length < 140737488355328 then (some (y488 ++ y491)) else (none))) = some r := by first | (rw [hy488]; with_reducible exact H) | (have H2_ := (Option.bind_some _ _).symm.trans H; rw [hy488]; with_reducible exact H2_) | (have H2_ := (Option.bind_some _ _).symm.trans H; with_reducible exact H2_) | with_reducible exact H | (rw [hy488]; exact H) | exact H
    have Ny488 := Aside0.mk hy488
    clear hy488
    obtain ⟨y491, hy491⟩ : ∃ y_ : List Int, y_ = (([13, 10, 13, 10] : List Int)) := ⟨_, rfl⟩
    replace H : (if y488.length + y491.length < 140737488355328 then (some (y488 ++ y491)) else (none)) = some r := by first | (rw [hy491]; with_reducible exact H) | (have H2_ := (Option.bind_some _ _).symm.trans H; rw [hy491]; with_reducible exact H2_) | (have H2_ := (Option.bind_some _ _).symm.trans H; with_reducible exact H2_) | with_reducible exact H | (rw [hy491]; exact H) | exact H
    have Ny491 := Aside0.mk hy491
    clear hy491
    by_cases c9 : y488.length + y491.length < 140737488355328
    ·rw [if_pos c9] at H
     have LMc9 := Aside0.mk c9
     clear c9
     obtain ⟨y494, hy494⟩ : ∃ y_ : List Int, y_ = (y488 ++ y491) := ⟨_, rfl⟩
     replace H : (some y494) = some r := by first | (rw [hy494]; with_reducible exact H) | (have H2_ := (Option.bind_some _ _).symm.trans H; rw [hy494]; with_reducible exact H2_) | (have H2_ := (Option.bind_some _ _).symm.trans H; with_reducible exact H2_) | with_reducible exact H | (rw [hy494]; exact H) | exact H
     have Ny494 := Aside0.mk hy494
     clear hy494
     obtain rfl := Option.some.inj H
     go_enter Tryz.func55, Tryz.ntmps55
     go_wp2_with (first | ((with_reducible refine gate_callee (f := 84) rfl ?_); refine goesL_ (some 5) rfl rfl Tryz.func84 (by kernel_rfl) rfl #[.slice A0 l0.length c0] rfl q2_ ?_; (with_reducible refine (spec_l1New.calls k _ _ l0 t478 t479 t480 w _ ?side1 ?side2 ?side3 A2.1).mono ?_); (case side1 => exact q1_); (case side2 => exact HR0.1); (case side3 => exact q121_); rintro e w10 ⟨g481, rfl, hi, hb, hb2⟩; refine ⟨_, rfl, ?_⟩; have n0_ := Aside0.mk (hb); have n1_ := Aside0.mk (hi); clear HB; have HB := n0_; have HI481 := n1_; clear n0_ n1_; (try clear hb); (try clear hb2); (try clear hk); (try clear hi)) | ((with_reducible refine gate_callee (f := 92) rfl ?_); refine goesL_ (some 7) rfl rfl Tryz.func92 (by kernel_rfl) rfl #[.pointer (some ⟨g481, 0, none⟩), .int .i64 6] rfl q2_ ?_; (with_reducible refine (spec_l1Once.calls g481 t478 t479 t480 6 true t483 t484 w _ ?side1 ?side2 A3.1).mono ?_); (case side1 => exact q57_); (case side2 => exact q33_); rintro e w11 ⟨rfl, hi, hb, hk⟩; refine ⟨_, rfl, ?_⟩; have n0_ := Aside0.mk (hb); have n1_ := Aside0.mk (hi); clear HB HI481; have HB := n0_; have HI481 := n1_; clear n0_ n1_; (try clear hb); (try clear hb2); (try clear hk); (try clear hi)) | ((with_reducible refine gate_callee (f := 90) rfl ?_); refine goesL_ (some 9) rfl rfl Tryz.func90 (by kernel_rfl) rfl #[.pointer (some ⟨g481, 0, none⟩), .int .i64 5] rfl q2_ ?_; (with_reducible refine (spec_l1Below.calls g481 t478 t483 t484 5 t485 t486 t487 w _ ?side1 ?side2 A5.1).mono ?_); (case side1 => exact q57_); (case side2 => exact q33_); rintro e w12 ⟨rfl, hi, hb, hk⟩; refine ⟨_, rfl, ?_⟩; have n0_ := Aside0.mk (hb); have n1_ := Aside0.mk (hi); clear HB HI481; have HB := n0_; have HI481 := n1_; clear n0_ n1_; (try clear hb); (try clear hb2); (try clear hk); (try clear hi)) | ((with_reducible refine gate_dst (N := 11) rfl ?_); refine Kd.R_make (Kd.int .u8) _ 5 rfl (N := 11) rfl 22 _ _ rfl ji6 rfl rfl Tryz.underlying22 (.int .u8 0) 1 info5 rfl (by decide) (by omega) 0 (ok := fun _ => True) (okp := fun _ => True) rfl (fun _ hk => hk) trivial (of_decide_eq_true q4_) (Nat.le_trans (Nat.mul_le_mul_right _ (of_decide_eq_true q4_ : ji6.toNat ≤ 281474976710656)) (by omega)) (Below.refl _ _) (Nat.le_refl _) ?_; intro v489 w13 ho14 hb hg_ hnew_; clear hg_ hnew_; (first | rw [← Ny488.1] at ho14 | (simp only [Int.reduceToNat] at ho14; rw [← Ny488.1] at ho14)); have n0_ := Aside0.mk (Kd.R_lower ho14 (below_size q33_)); have n1_ := Aside0.mk (IsS143.below q57_ hb); have n2_ := Aside0.mk (below_step q33_ hb); clear HI481 HB; have HO490 := n0_; have HI481 := n1_; have HB := n2_; clear n0_ n1_ n2_; clear hb ho14) | ((with_reducible refine gate_dst (N := 12) rfl ?_); refine Kd.R_lit (Kd.int .u8) _ 5 ?hg (N := 12) ?hd (xs := ([13, 10, 13, 10] : List Int)) (inner := [.int .u8 13, .int .u8 10, .int .u8 13, .int .u8 10]) (ok := fun _ => True) (okp := fun _ => True) ?hr ?hp (fun _ hk => hk) trivial (Below.refl _ _) (Nat.le_refl _) (by simp) ?_; (case hd => rfl); (case hg => rfl); (case hr => exact q26_); (case hp => exact (Reps.one (show Kd.M (Kd.int .u8) _ _ _ 13 [.int .u8 13] from rfl) (Reps.one (show Kd.M (Kd.int .u8) _ _ _ 10 [.int .u8 10] from rfl) (Reps.one (show Kd.M (Kd.int .u8) _ _ _ 13 [.int .u8 13] from rfl) (Reps.one (show Kd.M (Kd.int .u8) _ _ _ 10 [.int .u8 10] from rfl) (Reps.none _ _)))))); intro v492 w15 ho16 hb hg_ hnew_; clear hg_ hnew_; (first | rw [← Ny491.1] at ho16 | (simp only [Int.reduceToNat] at ho16; rw [← Ny491.1] at ho16)); have n0_ := Aside0.mk (Kd.R_elder' (by (with_reducible repeat (first | apply rA_ | apply rN_ | apply rD_)); exact HO490.1) (Kd.R_base ho16) hb); have n1_ := Aside0.mk (Kd.R_lower (Kd.R_new' ho16 (Kd.R_lt (by (with_reducible repeat (first | apply rA_ | apply rN_ | apply rD_)); exact HO490.1))) (below_size q33_)); have n2_ := Aside0.mk (IsS143.below q57_ hb); have n3_ := Aside0.mk (below_step q33_ hb); clear HO490 HI481 HB; have HO490 := n0_; have HO493 := n1_; have HI481 := n2_; have HB := n3_; clear n0_ n1_ n2_ n3_; clear hb ho16; obtain ⟨Ao18, co18, eo18⟩ := Kd.R_slice HO493.1; subst eo18) | ((with_reducible refine gate_builtin (b := .append) (xs := #[.tmp 11, .tmp 12]) rfl ?_); at_builtin; refine Kd.R_append_rows (Kd.int .u8) (w0 := w) w.heap.size rfl (.tmp 11) (.tmp 12) 22 5 (.int .u8 0) 1 rfl Tryz.underlying22 info5 rfl (by decide) (by omega) v489 y488 y491 _ _ _ (fun k_ => some k_ ≠ (.slice Ao18 y491.length co18 : Value).ownBlock) (fun _ => False) rfl rfl ?aO ?aR (fun _ _ h => h) (fun _ h => h.elim) ?aF ?aB ?aS ?aL ?_; (case aR => repeat (first | exact (Kd.R_reads' HO493.1).2.2 | (with_reducible refine Kd.C_alloc ?_ _) | (with_reducible refine Kd.C_drewN ?_ _) | (with_reducible refine Kd.C_drew ?_))); (case aB => exact q33_); (case aF => exact (fun k_ hk => Kd.fresh' (Kd.R_lt (by (with_reducible repeat (first | apply rA_ | apply rN_ | apply rD_)); exact HO493.1)) k_ hk)); (case aO => exact (by (with_reducible repeat (first | apply rA_ | apply rN_ | apply rD_)); exact Kd.R_mono HO490.1 (fun _ hk => hk.2))); (case aS => exact (below_size q33_)); (case aL => have := LMc9.1; omega); intro v495 w17 ho hb hg hat; rw [← Ny494.1] at ho; have n0_ := Aside0.mk (IsS143.grown (show IsS143 w _ g481 t478 t486 t487 from by repeat (first | (with_reducible first | exact HI481.1 | apply IsS143.alloc | apply IsS143.drewN | apply IsS143.drew | apply IsS143.set_1 | apply IsS143.set_2) | exact HI481.1)) hg (IsS143.own_ne HI481.1 HO490.1 (by decide))); have n1_ := Aside0.mk (Kd.R_after (ok := (fun _ => True)) (by (with_reducible repeat (first | apply rA_ | apply rN_ | apply rD_)); exact HO493.1) hg hat); have n2_ := Aside0.mk (hb); have n3_ := Aside0.mk (ho); clear HI481 HO493; clear HB HO490; have HI481 := n0_; have HO493 := n1_; have HB := n2_; have HO496 := n3_; clear n0_ n1_ n2_ n3_; clear ho hb hg hat))
     go_ret
     exact ⟨_, by first | rfl | (simp [errW_none, errW_some] <;> rfl) | (simp only [← hji6]; first | rfl | (simp [errW_none, errW_some] <;> rfl)) | (simp [*, errW_none, errW_some] <;> rfl), by (with_reducible repeat (first | apply rA_ | apply rN_ | apply rD_)); exact Kd.R_mono HO496.1 (fun _ hk => trivial), q33_⟩
    ·rw [if_neg c9] at H
     exact absurd H (by simp)
   ·rw [if_neg c8] at H
    exact absurd H (by simp)
  ·rw [if_neg c7] at H
   exact absurd H (by simp)
 ·replace c4 := Bool.eq_false_iff.mpr c4
  subst c4
  rw [if_neg (show ¬ (false = true) by decide)] at H
  replace H := Option.bind_eq_some_iff.mp H
  obtain ⟨⟨t497, t500, t501⟩, A190, H⟩ := H
  replace H : (some t497) = some r := H
  have A19 := Aside0.mk A190
  clear A190
  obtain rfl := Option.some.inj H
  go_enter Tryz.func55, Tryz.ntmps55
  go_wp2_with (first | ((with_reducible refine gate_callee (f := 84) rfl ?_); refine goesL_ (some 5) rfl rfl Tryz.func84 (by kernel_rfl) rfl #[.slice A0 l0.length c0] rfl q2_ ?_; (with_reducible refine (spec_l1New.calls k _ _ l0 t478 t479 t480 w _ ?side1 ?side2 ?side3 A2.1).mono ?_); (case side1 => exact q1_); (case side2 => exact HR0.1); (case side3 => exact q121_); rintro e w20 ⟨g481, rfl, hi, hb, hb2⟩; refine ⟨_, rfl, ?_⟩; have n0_ := Aside0.mk (hb); have n1_ := Aside0.mk (hi); clear HB; have HB := n0_; have HI481 := n1_; clear n0_ n1_; (try clear hb); (try clear hb2); (try clear hk); (try clear hi)) | ((with_reducible refine gate_callee (f := 92) rfl ?_); refine goesL_ (some 7) rfl rfl Tryz.func92 (by kernel_rfl) rfl #[.pointer (some ⟨g481, 0, none⟩), .int .i64 6] rfl q2_ ?_; (with_reducible refine (spec_l1Once.calls g481 t478 t479 t480 6 false t483 t484 w _ ?side1 ?side2 A3.1).mono ?_); (case side1 => exact q57_); (case side2 => exact q33_); rintro e w21 ⟨rfl, hi, hb, hk⟩; refine ⟨_, rfl, ?_⟩; have n0_ := Aside0.mk (hb); have n1_ := Aside0.mk (hi); clear HB HI481; have HB := n0_; have HI481 := n1_; clear n0_ n1_; (try clear hb); (try clear hb2); (try clear hk); (try clear hi)) | ((with_reducible refine gate_callee (f := 107) rfl ?_); refine goesL_ (some 15) rfl rfl Tryz.func107 (by kernel_rfl) rfl #[.pointer (some ⟨g481, 0, none⟩)] rfl q2_ ?_; (with_reducible refine (spec_l3Bytes.calls k g481 t478 t483 t484 t497 t500 t501 w _ ?side1 ?side2 A19.1).mono ?_); (case side1 => exact q57_); (case side2 => exact q33_); rintro e w22 ⟨v498, rfl, ho0, hi, hb, hk⟩; refine ⟨_, rfl, ?_⟩; have n0_ := Aside0.mk (Kd.R_lower ho0 (below_size q33_)); have n1_ := Aside0.mk (hb); have n2_ := Aside0.mk (hi); clear HB HI481; have HO499 := n0_; have HB := n1_; have HI481 := n2_; clear n0_ n1_ n2_; (try clear hb); (try clear hb2); (try clear hk); (try clear hi); (try clear ho0)))
  go_ret
  exact ⟨_, q10_, by (with_reducible repeat (first | apply rA_ | apply rN_ | apply rD_)); exact HO499.1, q33_⟩

mutual
def spec_HeadEnd.l0 : Nat → List Int → Int → Option (Int)
 | 0, _, _ => none
 | k + 1, x0, x3 => if (wrap64 (x3 + 3)) < (x0.length : Int) then (spec_HeadEnd.j1 k x0 x3 (decide ((wrap64 (x3 + 3)) < 400))) else (spec_HeadEnd.j1 k x0 x3 false)
def spec_HeadEnd.j1 : Nat → List Int → Int → Bool → Option (Int)
 | 0, _, _, _ => none
 | k + 1, x0, x3, x13 => if x13 = true then (if 0 ≤ x3 then (if x3 ≤ (wrap64 (x3 + 4)) then (if (wrap64 (x3 + 4)) ≤ (x0.length : Int) then (if (strOfNums ((x0.take ((wrap64 (x3 + 4)) : Int).toNat).drop (x3 : Int).toNat)).toList = ([13, 10, 13, 10] : List UInt8) then (some (wrap64 (x3 + 4))) else (spec_HeadEnd.l0 k x0 (wrap64 (x3 + 1)))) else (none)) else (none)) else (none)) else (some (-1))
end
def spec_HeadEnd.f (k : Nat) (l0 : List Int) : Option (Int) := spec_HeadEnd.l0 k l0 0

theorem spec_HeadEnd.calls (k : Nat) (A0 : Option Addr) (c0 : Nat) (l0 : List Int) (r : Int) (w : World) (hr0 : Kd.C (Kd.int .u8) w A0 l0.length l0) (hc0 : l0.length ≤ c0) (h : spec_HeadEnd.f k l0 = some r) :
  Calls Tryz.prog 56 #[.slice A0 l0.length c0] w fun e w' => e = .returned (.int .i64 r) ∧ Drawn0 w w' := by
 have HR0 := Aside0.mk hr0
 have HC0 := Aside0.mk hc0
 clear hr0 hc0
 have H : (spec_HeadEnd.l0 k l0 0) = some r := h
 clear h
 have H' := Aside0.mk H
 clear H
 go_enter Tryz.func56, Tryz.ntmps56
 go_wp2
 go_loopg [3] k (fun kq v3 w' => ∃ (x3_1 : Int), v3 = .int .i64 x3_1 ∧ Aside0 (spec_HeadEnd.l0 kq l0 x3_1 = some r) ∧ Aside0 (kq ≤ k) ∧ Drawn0 w w')
 case atStart => exact ⟨(0), q3_, H', ⟨Nat.le_refl _⟩, q13_⟩
 case round =>
  clear H'
  obtain ⟨x3_1, rfl, HA, HK1, ⟨m1, rfl⟩⟩ := hrel
  cases gk with
  | zero => exact absurd HA.1 (by simp [spec_HeadEnd.l0])
  | succ k1 =>
   have H := HA.1
   clear HA
   simp only [spec_HeadEnd.l0] at H
   have HC2 := Aside0.mk H
   clear H
   go_upto_region 2 with (fail)
   go_cut [13] (fun v13 wc => ∃ (kq : Nat) (x13_1 : Bool), v13 = .bool x13_1 ∧ Aside0 (spec_HeadEnd.j1 kq l0 x3_1 x13_1 = some r) ∧ Aside0 (kq ≤ k1) ∧ Drawn0 w wc)
   case first =>
    have H := HC2.1
    clear HC2
    by_cases c3 : (wrap64 (x3_1 + 3)) < (l0.length : Int)
    ·rw [if_pos c3] at H
     have c3b0 : decide ((wrap64 (x3_1 + 3)) < (l0.length : Int)) = true := decide_eq_true c3
     clear c3
     (first | rw [c3b0] | (simp only [i64_w, i32_w]; rw [c3b0]) | skip)
     have H' := Aside0.mk H
     clear H
     go_wp2
     go_meet
     case rel => exact ⟨_, (decide ((wrap64 (x3_1 + 3)) < 400)), q3_, H', ⟨q84_⟩, q13_⟩
    ·rw [if_neg c3] at H
     have c3b0 : decide ((wrap64 (x3_1 + 3)) < (l0.length : Int)) = false := decide_eq_false c3
     clear c3
     (first | rw [c3b0] | (simp only [i64_w, i32_w]; rw [c3b0]) | skip)
     have H' := Aside0.mk H
     clear H
     go_wp2
     go_meet
     case rel => exact ⟨_, (false), q3_, H', ⟨q84_⟩, q13_⟩
   case rest =>
    clear HC2
    try clear p2
    try clear c3
    try clear c3b0
    obtain ⟨kq, x13_1, rfl, HA, HJ1, ⟨mc1, rfl⟩⟩ := hcut
    cases kq with
    | zero => exact absurd HA.1 (by simp [spec_HeadEnd.j1])
    | succ kj1 =>
     have H := HA.1
     clear HA
     simp only [spec_HeadEnd.j1] at H
     by_cases c4 : x13_1 = true
     ·subst c4
      rw [if_pos rfl] at H
      by_cases c5 : 0 ≤ x3_1
      ·rw [if_pos c5] at H
       have c5b0 := eq_true c5
       have c5b1 : decide (0 ≤ x3_1) = true := decide_eq_true c5
       clear c5
       by_cases c6 : x3_1 ≤ (wrap64 (x3_1 + 4))
       ·rw [if_pos c6] at H
        have c6b0 := eq_true c6
        have c6b1 : decide (x3_1 ≤ (wrap64 (x3_1 + 4))) = true := decide_eq_true c6
        by_cases c7 : (wrap64 (x3_1 + 4)) ≤ (l0.length : Int)
        ·rw [if_pos c7] at H
         have c7b0 := eq_true c7
         have c7b1 : decide ((wrap64 (x3_1 + 4)) ≤ (l0.length : Int)) = true := decide_eq_true c7
         by_cases c8 : (strOfNums ((l0.take ((wrap64 (x3_1 + 4)) : Int).toNat).drop (x3_1 : Int).toNat)).toList = ([13, 10, 13, 10] : List UInt8)
         ·rw [if_pos c8] at H
          have c8b0 : ((strOfNums ((l0.take ((wrap64 (x3_1 + 4)) : Int).toNat).drop (x3_1 : Int).toNat)).toList == ([13, 10, 13, 10] : List UInt8)) = true := beq_iff_eq.mpr c8
          have c8b1 : ((strOfNums ((l0.take ((wrap64 (x3_1 + 4)) : Int).toNat).drop (x3_1 : Int).toNat)).toList != ([13, 10, 13, 10] : List UInt8)) = false := bne_eq_false_iff_eq.mpr c8
          clear c8
          obtain rfl := Option.some.inj H
          obtain ⟨i09, hi09, _, hsz9, _⟩ := info_parts info5
          obtain ⟨A9, hcut9, hA9, hC9⟩ := print_mid_of (P := Tryz.prog) (Value.int .u8) 0 22 5 .i64 .i64 Tryz.underlying22 hi09 hsz9 A0 c0 l0 x3_1 (wrap64 (x3_1 + 4)) (of_decide_eq_true q4_) (by first | omega | exact of_decide_eq_true q4_) (of_decide_eq_true q4_) HC0.1
          have HR502 := Aside0.mk (Kd.C_of_reads (h1 := fun _ => rfl) (hA9 _ (Kd.reads_of_C HR0.1)))
          have HC502 := Aside0.mk hC9
          clear hA9 hC9 hi09 hsz9
          have hq_ := HR502.1
          rw [show ((l0.take ((wrap64 (x3_1 + 4)) : Int).toNat).drop (x3_1 : Int).toNat).length = ((wrap64 (x3_1 + 4)).toNat - x3_1.toNat) from q122_] at hq_
          have hcv10 := Kd.C_string (P := Tryz.prog) (A := A9) (c := (c0 - x3_1.toNat)) Tryz.underlying22 Tryz.underlying5 Tryz.underlying9 hq_
          have hcv11 := fun nq_ : Nat => Kd.C_string (P := Tryz.prog) (A := A9) (c := (c0 - x3_1.toNat)) Tryz.underlying22 Tryz.underlying5 Tryz.underlying9 (Kd.C_drewN hq_ nq_)
          clear hq_
          go_wp2
          go_ret
          exact ⟨q3_, q13_⟩
         ·rw [if_neg c8] at H
          have c8b0 : ((strOfNums ((l0.take ((wrap64 (x3_1 + 4)) : Int).toNat).drop (x3_1 : Int).toNat)).toList == ([13, 10, 13, 10] : List UInt8)) = false := beq_eq_false_iff_ne.mpr c8
          have c8b1 : ((strOfNums ((l0.take ((wrap64 (x3_1 + 4)) : Int).toNat).drop (x3_1 : Int).toNat)).toList != ([13, 10, 13, 10] : List UInt8)) = true := bne_iff_ne.mpr c8
          have H' := Aside0.mk H
          clear H
          obtain ⟨i012, hi012, _, hsz12, _⟩ := info_parts info5
          obtain ⟨A12, hcut12, hA12, hC12⟩ := print_mid_of (P := Tryz.prog) (Value.int .u8) 0 22 5 .i64 .i64 Tryz.underlying22 hi012 hsz12 A0 c0 l0 x3_1 (wrap64 (x3_1 + 4)) (of_decide_eq_true q4_) (by first | omega | exact of_decide_eq_true q4_) (of_decide_eq_true q4_) HC0.1
          have HR502 := Aside0.mk (Kd.C_of_reads (h1 := fun _ => rfl) (hA12 _ (Kd.reads_of_C HR0.1)))
          have HC502 := Aside0.mk hC12
          clear hA12 hC12 hi012 hsz12
          have hq_ := HR502.1
          rw [show ((l0.take ((wrap64 (x3_1 + 4)) : Int).toNat).drop (x3_1 : Int).toNat).length = ((wrap64 (x3_1 + 4)).toNat - x3_1.toNat) from q122_] at hq_
          have hcv13 := Kd.C_string (P := Tryz.prog) (A := A12) (c := (c0 - x3_1.toNat)) Tryz.underlying22 Tryz.underlying5 Tryz.underlying9 hq_
          have hcv14 := fun nq_ : Nat => Kd.C_string (P := Tryz.prog) (A := A12) (c := (c0 - x3_1.toNat)) Tryz.underlying22 Tryz.underlying5 Tryz.underlying9 (Kd.C_drewN hq_ nq_)
          clear hq_
          go_wp2
          go_roundg kj1
          case measure => have := HK1.1; have := HJ1.1; omega
          case rel => exact ⟨(wrap64 (x3_1 + 1)), q3_, H', ⟨q128_⟩, q13_⟩
        ·rw [if_neg c7] at H
         exact absurd H (by simp)
       ·rw [if_neg c6] at H
        exact absurd H (by simp)
      ·rw [if_neg c5] at H
       exact absurd H (by simp)
     ·replace c4 := Bool.eq_false_iff.mpr c4
      subst c4
      rw [if_neg (show ¬ (false = true) by decide)] at H
      obtain rfl := Option.some.inj H
      go_wp2
      go_ret
      exact ⟨q3_, q13_⟩

def impl_sameHeads.l0 : Nat → List (S88) → List (S88) → Int → Int → Option (Bool)
 | 0, _, _, _, _ => none
 | k + 1, x0, x1, x12, x13 => if x13 < x12 then (if 0 ≤ x13 then (if x13 < (x0.length : Int) then (if x13 < (x1.length : Int) then (if (!((((rd_T88 x0 x13).f0).toList) == (((rd_T88 x1 x13).f0).toList)) || (!((((rd_T88 x0 x13).f1).toList) == (((rd_T88 x1 x13).f1).toList)))) = true then (some false) else (impl_sameHeads.l0 k x0 x1 x12 (wrap64 (x13 + 1)))) else (none)) else (none)) else (none)) else (some true)
def impl_sameHeads.f (k : Nat) (l0 : List (S88)) (l1 : List (S88)) : Option (Bool) := if (l0.length : Int) = (l1.length : Int) then (impl_sameHeads.l0 k l0 l1 (l0.length : Int) 0) else (some false)

theorem impl_sameHeads.calls (k : Nat) (A0 : Option Addr) (c0 : Nat) (l0 : List (S88)) (A1 : Option Addr) (c1 : Nat) (l1 : List (S88)) (r : Bool) (w : World) (hr0 : Kd.C k88 w A0 l0.length l0) (hc0 : l0.length ≤ c0) (hr1 : Kd.C k88 w A1 l1.length l1) (hc1 : l1.length ≤ c1) (h : impl_sameHeads.f k l0 l1 = some r) :
  Calls Tryz.prog 93 #[.slice A0 l0.length c0, .slice A1 l1.length c1] w fun e w' => e = .returned (.bool r) ∧ Drawn0 w w' := by
 have hu88 := Tryz.underlying88
 have HR0 := Aside0.mk hr0
 have HC0 := Aside0.mk hc0
 clear hr0 hc0
 have HR1 := Aside0.mk hr1
 have HC1 := Aside0.mk hc1
 clear hr1 hc1
 have H : (if (l0.length : Int) = (l1.length : Int) then (impl_sameHeads.l0 k l0 l1 (l0.length : Int) 0) else (some false)) = some r := h
 clear h
 by_cases c3 : (l0.length : Int) = (l1.length : Int)
 ·rw [if_pos c3] at H
  have c3b0 : ((l0.length : Int) == (l1.length : Int)) = true := beq_iff_eq.mpr c3
  have c3b1 : ((l0.length : Int) != (l1.length : Int)) = false := bne_eq_false_iff_eq.mpr c3
  have c3b2 : (l0.length == l1.length) = true := by first | simpa using c3 | (simp at c3 ⊢; omega)
  clear c3
  have H' := Aside0.mk H
  clear H
  go_enter Tryz.func93, Tryz.ntmps93
  go_wp2
  repeat (go_quiet (fail); try go_wp2)
  go_loopg [13] k (fun kq v13 w' => ∃ (x13_1 : Int), v13 = .int .i64 x13_1 ∧ Aside0 (impl_sameHeads.l0 kq l0 l1 (l0.length : Int) x13_1 = some r) ∧ Aside0 (kq ≤ k) ∧ Drawn0 w w')
  case atStart => exact ⟨(0), q3_, H', ⟨Nat.le_refl _⟩, q13_⟩
  case round =>
   clear H'
   try clear c1
   try clear p2
   try clear c3
   try clear c3b0
   try clear c3b1
   try clear c3b2
   obtain ⟨x13_1, rfl, HA, HK1, ⟨m1, rfl⟩⟩ := hrel
   cases gk with
   | zero => exact absurd HA.1 (by simp [impl_sameHeads.l0])
   | succ k1 =>
    have H := HA.1
    clear HA
    simp only [impl_sameHeads.l0] at H
    by_cases c4 : x13_1 < (l0.length : Int)
    ·rw [if_pos c4] at H
     have c4b0 : decide (x13_1 < (l0.length : Int)) = true := decide_eq_true c4
     clear c4
     by_cases c5 : 0 ≤ x13_1
     ·rw [if_pos c5] at H
      have c5b0 : decide (0 ≤ x13_1) = true := decide_eq_true c5
      clear c5
      by_cases c6 : x13_1 < (l0.length : Int)
      ·rw [if_pos c6] at H
       have c6b0 : decide (x13_1 < (l0.length : Int)) = true := decide_eq_true c6
       clear c6
       by_cases c7 : x13_1 < (l1.length : Int)
       ·rw [if_pos c7] at H
        have c7b0 : decide (x13_1 < (l1.length : Int)) = true := decide_eq_true c7
        clear c7
        by_cases c8 : (!((((rd_T88 l0 x13_1).f0).toList) == (((rd_T88 l1 x13_1).f0).toList)) || (!((((rd_T88 l0 x13_1).f1).toList) == (((rd_T88 l1 x13_1).f1).toList)))) = true
        ·rw [if_pos c8] at H
         have c8b0 : (!((((rd_T88 l0 x13_1).f0).toList) == (((rd_T88 l1 x13_1).f0).toList)) || (!((((rd_T88 l0 x13_1).f1).toList) == (((rd_T88 l1 x13_1).f1).toList)))) = true := c8
         clear c8
         obtain rfl := Option.some.inj H
         have p503 : 0 ≤ (x13_1 : Int) := of_decide_eq_true q4_
         have q503 : x13_1 < (l0.length : Int) := of_decide_eq_true q4_
         obtain ⟨ad503, e503, hx503_0, hx503_1⟩ := at_T88 HR0.1 x13_1 p503 q503
         cases e503
         replace p503 := eq_true p503
         replace q503 := eq_true q503
         have p504 : 0 ≤ (x13_1 : Int) := of_decide_eq_true q4_
         have q504 : x13_1 < (l1.length : Int) := of_decide_eq_true q4_
         obtain ⟨ad504, e504, hx504_0, hx504_1⟩ := at_T88 HR1.1 x13_1 p504 q504
         cases e504
         replace p504 := eq_true p504
         replace q504 := eq_true q504
         go_wp2
         repeat (go_quiet (fail); try go_wp2)
         go_ret
         exact ⟨q3_, q13_⟩
        ·rw [if_neg c8] at H
         have c8b0 : (!((((rd_T88 l0 x13_1).f0).toList) == (((rd_T88 l1 x13_1).f0).toList)) || (!((((rd_T88 l0 x13_1).f1).toList) == (((rd_T88 l1 x13_1).f1).toList)))) = false := by simpa using c8
         clear c8
         have H' := Aside0.mk H
         clear H
         have p503 : 0 ≤ (x13_1 : Int) := of_decide_eq_true q4_
         have q503 : x13_1 < (l0.length : Int) := of_decide_eq_true q4_
         obtain ⟨ad503, e503, hx503_0, hx503_1⟩ := at_T88 HR0.1 x13_1 p503 q503
         cases e503
         replace p503 := eq_true p503
         replace q503 := eq_true q503
         have p504 : 0 ≤ (x13_1 : Int) := of_decide_eq_true q4_
         have q504 : x13_1 < (l1.length : Int) := of_decide_eq_true q4_
         obtain ⟨ad504, e504, hx504_0, hx504_1⟩ := at_T88 HR1.1 x13_1 p504 q504
         cases e504
         replace p504 := eq_true p504
         replace q504 := eq_true q504
         go_wp2
         repeat (go_quiet (fail); try go_wp2)
         go_roundg k1
         case measure => have := HK1.1; omega
         case rel => exact ⟨(wrap64 (x13_1 + 1)), q3_, H', ⟨q85_⟩, q13_⟩
       ·rw [if_neg c7] at H
        exact absurd H (by simp)
      ·rw [if_neg c6] at H
       exact absurd H (by simp)
     ·rw [if_neg c5] at H
      exact absurd H (by simp)
    ·rw [if_neg c4] at H
     have c4b0 : decide (x13_1 < (l0.length : Int)) = false := decide_eq_false c4
     clear c4
     obtain rfl := Option.some.inj H
     go_wp2
     repeat (go_quiet (fail); try go_wp2)
     go_ret
     exact ⟨q3_, q13_⟩
 ·rw [if_neg c3] at H
  have c3b0 : ((l0.length : Int) == (l1.length : Int)) = false := beq_eq_false_iff_ne.mpr c3
  have c3b1 : ((l0.length : Int) != (l1.length : Int)) = true := bne_iff_ne.mpr c3
  have c3b2 : (l0.length == l1.length) = false := by first | simpa using c3 | (simp at c3 ⊢; omega)
  obtain rfl := Option.some.inj H
  go_enter Tryz.func93, Tryz.ntmps93
  go_wp2
  repeat (go_quiet (fail); try go_wp2)
  go_ret
  exact ⟨q3_, q13_⟩

def impl_SameReq.f (k : Nat) (a0_0 : ByteArray) (a0_1 : ByteArray) (l0_2 : List (S88)) (a0_3 : ByteArray) (a1_0 : ByteArray) (a1_1 : ByteArray) (l1_2 : List (S88)) (a1_3 : ByteArray) : Option (Bool) := if a0_0.toList = a1_0.toList then (if a0_1.toList = a1_1.toList then ((impl_sameHeads.f k l0_2 l1_2).bind fun t507 => (if t507 = true then (some (a0_3.toList == a1_3.toList)) else (some false))) else (some false)) else (some false)

theorem impl_SameReq.calls (k : Nat) (a0_0 : ByteArray) (a0_1 : ByteArray) (A0_2 : Option Addr) (c0_2 : Nat) (l0_2 : List (S88)) (a0_3 : ByteArray) (a1_0 : ByteArray) (a1_1 : ByteArray) (A1_2 : Option Addr) (c1_2 : Nat) (l1_2 : List (S88)) (a1_3 : ByteArray) (r : Bool) (w : World) (hr0_2 : Kd.C k88 w A0_2 l0_2.length l0_2) (hc0_2 : l0_2.length ≤ c0_2) (hr1_2 : Kd.C k88 w A1_2 l1_2.length l1_2) (hc1_2 : l1_2.length ≤ c1_2) (h : impl_SameReq.f k a0_0 a0_1 l0_2 a0_3 a1_0 a1_1 l1_2 a1_3 = some r) :
  Calls Tryz.prog 57 #[.agg #[.string a0_0, .string a0_1, .slice A0_2 l0_2.length c0_2, .string a0_3], .agg #[.string a1_0, .string a1_1, .slice A1_2 l1_2.length c1_2, .string a1_3]] w fun e w' => e = .returned (.bool r) ∧ Below w.heap.size w w' := by
 have hu64 := Tryz.underlying64
 have HR0_2 := Aside0.mk hr0_2
 have HC0_2 := Aside0.mk hc0_2
 clear hr0_2 hc0_2
 have HR1_2 := Aside0.mk hr1_2
 have HC1_2 := Aside0.mk hc1_2
 clear hr1_2 hc1_2
 have HB := Aside0.mk (Below.refl w.heap.size w)
 have H : (if a0_0.toList = a1_0.toList then (if a0_1.toList = a1_1.toList then ((impl_sameHeads.f k l0_2 l1_2).bind fun t507 => (if t507 = true then (some (a0_3.toList == a1_3.toList)) else (some false))) else (some false)) else (some false)) = some r := h
 clear h
 by_cases c3 : a0_0.toList = a1_0.toList
 ·rw [if_pos c3] at H
  have c3b0 : (a0_0.toList == a1_0.toList) = true := beq_iff_eq.mpr c3
  have c3b1 : (a0_0.toList != a1_0.toList) = false := bne_eq_false_iff_eq.mpr c3
  clear c3
  by_cases c4 : a0_1.toList = a1_1.toList
  ·rw [if_pos c4] at H
   have c4b0 : (a0_1.toList == a1_1.toList) = true := beq_iff_eq.mpr c4
   have c4b1 : (a0_1.toList != a1_1.toList) = false := bne_eq_false_iff_eq.mpr c4
   clear c4
   replace H := Option.bind_eq_some_iff.mp H
   obtain ⟨t507, A50, H⟩ := H
   replace H : (if t507 = true then (some (a0_3.toList == a1_3.toList)) else (some false)) = some r := H
   have A5 := Aside0.mk A50
   clear A50
   by_cases c6 : t507 = true
   ·subst c6
    rw [if_pos rfl] at H
    obtain rfl := Option.some.inj H
    go_enter Tryz.func57, Tryz.ntmps57
    go_wp2_with (first | ((with_reducible refine gate_dst (N := 2) rfl ?_); refine box_event ?hg (N := 2) ?hd (cs := #[.string a0_0, .string a0_1, .slice A0_2 l0_2.length c0_2, .string a0_3]) (t := 64) ?hr ?_; (case hd => rfl); (case hg => rfl); (case hr => exact q26_); intro gb505 hg w7 hbox hb; have n0_ := Aside0.mk (below_step q1_ hb); have n1_ := Aside0.mk (hbox); have n2_ := Aside0.mk ((q40_ : w.heap.size ≤ gb505)); have n3_ := Aside0.mk ((q40_ : w.heap.size ≤ gb505)); clear HB; have HB := n0_; have BK505 := n1_; have GW505 := n2_; have GE505 := n3_; clear n0_ n1_ n2_ n3_; clear hb hbox hg) | ((with_reducible refine gate_dst (N := 3) rfl ?_); refine box_event ?hg (N := 3) ?hd (cs := #[.string a1_0, .string a1_1, .slice A1_2 l1_2.length c1_2, .string a1_3]) (t := 64) ?hr ?_; (case hd => rfl); (case hg => rfl); (case hr => exact q26_); intro gb506 hg w8 hbox hb; have n0_ := Aside0.mk (bB_ (g := gb505) (o := .cells #[.string a0_0, .string a0_1, .slice A0_2 l0_2.length c0_2, .string a0_3] 64 (0, 0)) q46_ hb); have n1_ := Aside0.mk (below_step q37_ hb); have n2_ := Aside0.mk (hbox); have n3_ := Aside0.mk ((q108_ : w.heap.size ≤ gb506)); have n4_ := Aside0.mk ((q108_ : w.heap.size ≤ gb506)); have n5_ := Aside0.mk ((q82_ : gb505 ≠ gb506)); have n6_ := Aside0.mk ((q83_ : gb506 ≠ gb505)); clear BK505 HB; have BK505 := n0_; have HB := n1_; have BK506 := n2_; have GW506 := n3_; have GE506 := n4_; have NB505_506 := n5_; have NB506_505 := n6_; clear n0_ n1_ n2_ n3_ n4_ n5_ n6_; clear hb hbox hg; have hnb9 := NB505_506.1; have hnc9 := NB506_505.1; have hcz10_0 : w8.cell? ⟨gb505, 0, none⟩ = some (.string a0_0) := (bc_ BK505.1 0).trans rfl; have hcz10_1 : w8.cell? ⟨gb505, 1, none⟩ = some (.string a0_1) := (bc_ BK505.1 1).trans rfl; have hcz10_2 : w8.cell? ⟨gb505, 2, none⟩ = some (.slice A0_2 l0_2.length c0_2) := (bc_ BK505.1 2).trans rfl; have hcz10_3 : w8.cell? ⟨gb505, 3, none⟩ = some (.string a0_3) := (bc_ BK505.1 3).trans rfl; have hfz10_0 := bF_ BK505.1 0; have hfz10_1 := bF_ BK505.1 1; have hfz10_2 := bF_ BK505.1 2; have hfz10_3 := bF_ BK505.1 3; have hcz11_0 : w8.cell? ⟨gb506, 0, none⟩ = some (.string a1_0) := (bc_ BK506.1 0).trans rfl; have hcz11_1 : w8.cell? ⟨gb506, 1, none⟩ = some (.string a1_1) := (bc_ BK506.1 1).trans rfl; have hcz11_2 : w8.cell? ⟨gb506, 2, none⟩ = some (.slice A1_2 l1_2.length c1_2) := (bc_ BK506.1 2).trans rfl; have hcz11_3 : w8.cell? ⟨gb506, 3, none⟩ = some (.string a1_3) := (bc_ BK506.1 3).trans rfl; have hfz11_0 := bF_ BK506.1 0; have hfz11_1 := bF_ BK506.1 1; have hfz11_2 := bF_ BK506.1 2; have hfz11_3 := bF_ BK506.1 3) | (go_at_call 93; (with_reducible refine (impl_sameHeads.calls k _ _ l0_2 _ _ l1_2 true _ ?side1 ?side2 ?side3 ?side4 A5.1).mono ?_); (case side1 => exact q32_); (case side2 => exact q103_); (case side3 => exact q117_); (case side4 => exact HC1_2.1); rintro e w' ⟨rfl, ⟨nd, rfl⟩⟩))
    go_ret
    exact ⟨q10_, q75_⟩
   ·replace c6 := Bool.eq_false_iff.mpr c6
    subst c6
    rw [if_neg (show ¬ (false = true) by decide)] at H
    obtain rfl := Option.some.inj H
    go_enter Tryz.func57, Tryz.ntmps57
    go_wp2_with (first | ((with_reducible refine gate_dst (N := 2) rfl ?_); refine box_event ?hg (N := 2) ?hd (cs := #[.string a0_0, .string a0_1, .slice A0_2 l0_2.length c0_2, .string a0_3]) (t := 64) ?hr ?_; (case hd => rfl); (case hg => rfl); (case hr => exact q26_); intro gb505 hg w12 hbox hb; have n0_ := Aside0.mk (below_step q1_ hb); have n1_ := Aside0.mk (hbox); have n2_ := Aside0.mk ((q40_ : w.heap.size ≤ gb505)); have n3_ := Aside0.mk ((q40_ : w.heap.size ≤ gb505)); clear HB; have HB := n0_; have BK505 := n1_; have GW505 := n2_; have GE505 := n3_; clear n0_ n1_ n2_ n3_; clear hb hbox hg) | ((with_reducible refine gate_dst (N := 3) rfl ?_); refine box_event ?hg (N := 3) ?hd (cs := #[.string a1_0, .string a1_1, .slice A1_2 l1_2.length c1_2, .string a1_3]) (t := 64) ?hr ?_; (case hd => rfl); (case hg => rfl); (case hr => exact q26_); intro gb506 hg w13 hbox hb; have n0_ := Aside0.mk (bB_ (g := gb505) (o := .cells #[.string a0_0, .string a0_1, .slice A0_2 l0_2.length c0_2, .string a0_3] 64 (0, 0)) q46_ hb); have n1_ := Aside0.mk (below_step q37_ hb); have n2_ := Aside0.mk (hbox); have n3_ := Aside0.mk ((q108_ : w.heap.size ≤ gb506)); have n4_ := Aside0.mk ((q108_ : w.heap.size ≤ gb506)); have n5_ := Aside0.mk ((q82_ : gb505 ≠ gb506)); have n6_ := Aside0.mk ((q83_ : gb506 ≠ gb505)); clear BK505 HB; have BK505 := n0_; have HB := n1_; have BK506 := n2_; have GW506 := n3_; have GE506 := n4_; have NB505_506 := n5_; have NB506_505 := n6_; clear n0_ n1_ n2_ n3_ n4_ n5_ n6_; clear hb hbox hg; have hnb14 := NB505_506.1; have hnc14 := NB506_505.1; have hcz15_0 : w13.cell? ⟨gb505, 0, none⟩ = some (.string a0_0) := (bc_ BK505.1 0).trans rfl; have hcz15_1 : w13.cell? ⟨gb505, 1, none⟩ = some (.string a0_1) := (bc_ BK505.1 1).trans rfl; have hcz15_2 : w13.cell? ⟨gb505, 2, none⟩ = some (.slice A0_2 l0_2.length c0_2) := (bc_ BK505.1 2).trans rfl; have hcz15_3 : w13.cell? ⟨gb505, 3, none⟩ = some (.string a0_3) := (bc_ BK505.1 3).trans rfl; have hfz15_0 := bF_ BK505.1 0; have hfz15_1 := bF_ BK505.1 1; have hfz15_2 := bF_ BK505.1 2; have hfz15_3 := bF_ BK505.1 3; have hcz16_0 : w13.cell? ⟨gb506, 0, none⟩ = some (.string a1_0) := (bc_ BK506.1 0).trans rfl; have hcz16_1 : w13.cell? ⟨gb506, 1, none⟩ = some (.string a1_1) := (bc_ BK506.1 1).trans rfl; have hcz16_2 : w13.cell? ⟨gb506, 2, none⟩ = some (.slice A1_2 l1_2.length c1_2) := (bc_ BK506.1 2).trans rfl; have hcz16_3 : w13.cell? ⟨gb506, 3, none⟩ = some (.string a1_3) := (bc_ BK506.1 3).trans rfl; have hfz16_0 := bF_ BK506.1 0; have hfz16_1 := bF_ BK506.1 1; have hfz16_2 := bF_ BK506.1 2; have hfz16_3 := bF_ BK506.1 3) | (go_at_call 93; (with_reducible refine (impl_sameHeads.calls k _ _ l0_2 _ _ l1_2 false _ ?side1 ?side2 ?side3 ?side4 A5.1).mono ?_); (case side1 => exact q32_); (case side2 => exact q103_); (case side3 => exact q117_); (case side4 => exact HC1_2.1); rintro e w' ⟨rfl, ⟨nd, rfl⟩⟩))
    go_ret
    exact ⟨q10_, q75_⟩
  ·rw [if_neg c4] at H
   have c4b0 : (a0_1.toList == a1_1.toList) = false := beq_eq_false_iff_ne.mpr c4
   have c4b1 : (a0_1.toList != a1_1.toList) = true := bne_iff_ne.mpr c4
   obtain rfl := Option.some.inj H
   go_enter Tryz.func57, Tryz.ntmps57
   go_wp2_with (first | ((with_reducible refine gate_dst (N := 2) rfl ?_); refine box_event ?hg (N := 2) ?hd (cs := #[.string a0_0, .string a0_1, .slice A0_2 l0_2.length c0_2, .string a0_3]) (t := 64) ?hr ?_; (case hd => rfl); (case hg => rfl); (case hr => exact q26_); intro gb505 hg w17 hbox hb; have n0_ := Aside0.mk (below_step q1_ hb); have n1_ := Aside0.mk (hbox); have n2_ := Aside0.mk ((q40_ : w.heap.size ≤ gb505)); have n3_ := Aside0.mk ((q40_ : w.heap.size ≤ gb505)); clear HB; have HB := n0_; have BK505 := n1_; have GW505 := n2_; have GE505 := n3_; clear n0_ n1_ n2_ n3_; clear hb hbox hg) | ((with_reducible refine gate_dst (N := 3) rfl ?_); refine box_event ?hg (N := 3) ?hd (cs := #[.string a1_0, .string a1_1, .slice A1_2 l1_2.length c1_2, .string a1_3]) (t := 64) ?hr ?_; (case hd => rfl); (case hg => rfl); (case hr => exact q26_); intro gb506 hg w18 hbox hb; have n0_ := Aside0.mk (bB_ (g := gb505) (o := .cells #[.string a0_0, .string a0_1, .slice A0_2 l0_2.length c0_2, .string a0_3] 64 (0, 0)) q46_ hb); have n1_ := Aside0.mk (below_step q37_ hb); have n2_ := Aside0.mk (hbox); have n3_ := Aside0.mk ((q108_ : w.heap.size ≤ gb506)); have n4_ := Aside0.mk ((q108_ : w.heap.size ≤ gb506)); have n5_ := Aside0.mk ((q82_ : gb505 ≠ gb506)); have n6_ := Aside0.mk ((q83_ : gb506 ≠ gb505)); clear BK505 HB; have BK505 := n0_; have HB := n1_; have BK506 := n2_; have GW506 := n3_; have GE506 := n4_; have NB505_506 := n5_; have NB506_505 := n6_; clear n0_ n1_ n2_ n3_ n4_ n5_ n6_; clear hb hbox hg; have hnb19 := NB505_506.1; have hnc19 := NB506_505.1; have hcz20_0 : w18.cell? ⟨gb505, 0, none⟩ = some (.string a0_0) := (bc_ BK505.1 0).trans rfl; have hcz20_1 : w18.cell? ⟨gb505, 1, none⟩ = some (.string a0_1) := (bc_ BK505.1 1).trans rfl; have hcz20_2 : w18.cell? ⟨gb505, 2, none⟩ = some (.slice A0_2 l0_2.length c0_2) := (bc_ BK505.1 2).trans rfl; have hcz20_3 : w18.cell? ⟨gb505, 3, none⟩ = some (.string a0_3) := (bc_ BK505.1 3).trans rfl; have hfz20_0 := bF_ BK505.1 0; have hfz20_1 := bF_ BK505.1 1; have hfz20_2 := bF_ BK505.1 2; have hfz20_3 := bF_ BK505.1 3; have hcz21_0 : w18.cell? ⟨gb506, 0, none⟩ = some (.string a1_0) := (bc_ BK506.1 0).trans rfl; have hcz21_1 : w18.cell? ⟨gb506, 1, none⟩ = some (.string a1_1) := (bc_ BK506.1 1).trans rfl; have hcz21_2 : w18.cell? ⟨gb506, 2, none⟩ = some (.slice A1_2 l1_2.length c1_2) := (bc_ BK506.1 2).trans rfl; have hcz21_3 : w18.cell? ⟨gb506, 3, none⟩ = some (.string a1_3) := (bc_ BK506.1 3).trans rfl; have hfz21_0 := bF_ BK506.1 0; have hfz21_1 := bF_ BK506.1 1; have hfz21_2 := bF_ BK506.1 2; have hfz21_3 := bF_ BK506.1 3))
   go_ret
   exact ⟨q10_, q75_⟩
 ·rw [if_neg c3] at H
  have c3b0 : (a0_0.toList == a1_0.toList) = false := beq_eq_false_iff_ne.mpr c3
  have c3b1 : (a0_0.toList != a1_0.toList) = true := bne_iff_ne.mpr c3
  obtain rfl := Option.some.inj H
  go_enter Tryz.func57, Tryz.ntmps57
  go_wp2_with (first | ((with_reducible refine gate_dst (N := 2) rfl ?_); refine box_event ?hg (N := 2) ?hd (cs := #[.string a0_0, .string a0_1, .slice A0_2 l0_2.length c0_2, .string a0_3]) (t := 64) ?hr ?_; (case hd => rfl); (case hg => rfl); (case hr => exact q26_); intro gb505 hg w22 hbox hb; have n0_ := Aside0.mk (below_step q1_ hb); have n1_ := Aside0.mk (hbox); have n2_ := Aside0.mk ((q40_ : w.heap.size ≤ gb505)); have n3_ := Aside0.mk ((q40_ : w.heap.size ≤ gb505)); clear HB; have HB := n0_; have BK505 := n1_; have GW505 := n2_; have GE505 := n3_; clear n0_ n1_ n2_ n3_; clear hb hbox hg) | ((with_reducible refine gate_dst (N := 3) rfl ?_); refine box_event ?hg (N := 3) ?hd (cs := #[.string a1_0, .string a1_1, .slice A1_2 l1_2.length c1_2, .string a1_3]) (t := 64) ?hr ?_; (case hd => rfl); (case hg => rfl); (case hr => exact q26_); intro gb506 hg w23 hbox hb; have n0_ := Aside0.mk (bB_ (g := gb505) (o := .cells #[.string a0_0, .string a0_1, .slice A0_2 l0_2.length c0_2, .string a0_3] 64 (0, 0)) q46_ hb); have n1_ := Aside0.mk (below_step q37_ hb); have n2_ := Aside0.mk (hbox); have n3_ := Aside0.mk ((q108_ : w.heap.size ≤ gb506)); have n4_ := Aside0.mk ((q108_ : w.heap.size ≤ gb506)); have n5_ := Aside0.mk ((q82_ : gb505 ≠ gb506)); have n6_ := Aside0.mk ((q83_ : gb506 ≠ gb505)); clear BK505 HB; have BK505 := n0_; have HB := n1_; have BK506 := n2_; have GW506 := n3_; have GE506 := n4_; have NB505_506 := n5_; have NB506_505 := n6_; clear n0_ n1_ n2_ n3_ n4_ n5_ n6_; clear hb hbox hg; have hnb24 := NB505_506.1; have hnc24 := NB506_505.1; have hcz25_0 : w23.cell? ⟨gb505, 0, none⟩ = some (.string a0_0) := (bc_ BK505.1 0).trans rfl; have hcz25_1 : w23.cell? ⟨gb505, 1, none⟩ = some (.string a0_1) := (bc_ BK505.1 1).trans rfl; have hcz25_2 : w23.cell? ⟨gb505, 2, none⟩ = some (.slice A0_2 l0_2.length c0_2) := (bc_ BK505.1 2).trans rfl; have hcz25_3 : w23.cell? ⟨gb505, 3, none⟩ = some (.string a0_3) := (bc_ BK505.1 3).trans rfl; have hfz25_0 := bF_ BK505.1 0; have hfz25_1 := bF_ BK505.1 1; have hfz25_2 := bF_ BK505.1 2; have hfz25_3 := bF_ BK505.1 3; have hcz26_0 : w23.cell? ⟨gb506, 0, none⟩ = some (.string a1_0) := (bc_ BK506.1 0).trans rfl; have hcz26_1 : w23.cell? ⟨gb506, 1, none⟩ = some (.string a1_1) := (bc_ BK506.1 1).trans rfl; have hcz26_2 : w23.cell? ⟨gb506, 2, none⟩ = some (.slice A1_2 l1_2.length c1_2) := (bc_ BK506.1 2).trans rfl; have hcz26_3 : w23.cell? ⟨gb506, 3, none⟩ = some (.string a1_3) := (bc_ BK506.1 3).trans rfl; have hfz26_0 := bF_ BK506.1 0; have hfz26_1 := bF_ BK506.1 1; have hfz26_2 := bF_ BK506.1 2; have hfz26_3 := bF_ BK506.1 3))
  go_ret
  exact ⟨q10_, q75_⟩

end Go.Proofs.YtfncjddolbghlaaGreatDoor.GFnMore
