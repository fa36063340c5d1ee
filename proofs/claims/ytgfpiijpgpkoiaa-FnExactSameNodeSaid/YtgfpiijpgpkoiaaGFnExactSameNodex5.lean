-- by gprint.py (this session's program over the kit's print.py) (a twelfth state) out of the translation. Not trusted: Lean checks it.
import Derived.Test.YtgfpiijpgpkoiaaGFnExactSameNodex0
import Derived.Test.YtgfpiijpgpkoiaaGFnExactSameNodex1
import Derived.Test.YtgfpiijpgpkoiaaGFnExactSameNodex2
import Derived.Test.YtgfpiijpgpkoiaaGFnExactSameNodex3
import Derived.Test.YtgfpiijpgpkoiaaGFnExactSameNodex4
namespace Go.Proofs.Ytgfpiijpgpkoiaa.GFnExactSameNode
open Go.RowKit Go.Proofs.YtgfpiijpgpkoiaaW.PrintWords Go.Proofs.YtgfpiijpgpkoiaaW.PrintLast Go.Proofs.YtgfpiijpgpkoiaaW.PrintMore
attribute [local go_sem] max2_int min2_int max_two min_two max_three min_three max_four min_four   -- for this text's walks alone
set_option linter.unusedVariables false
set_option linter.unusedSimpArgs false

/-! ### laws_FnExactSameNode: function 5 -/
def laws_FnExactSameNode.f (k : Nat) (a0_0 : ByteArray) (a0_1 : ByteArray) (a0_2 : ByteArray) (l0_3 : List (S35)) (a1_0 : ByteArray) (a1_1 : ByteArray) (a1_2 : ByteArray) (l1_3 : List (S35)) : Option (Bool) := (laws_szNode.f k a0_0 a0_1 a0_2 l0_3 1048576).bind fun t140 => (if t140 < 0 then (some true) else ((laws_szNode.f k a1_0 a1_1 a1_2 l1_3 t140).bind fun t141 => (if t141 < 0 then (some true) else ((laws_toNode.f k a0_0 a0_1 a0_2 l0_3).bind fun bt142 => ((laws_toNode.f k a1_0 a1_1 a1_2 l1_3).bind fun bt148 => ((spec_SameNode.f k bt142.1 bt142.2.1 bt142.2.2.1 bt142.2.2.2 bt148.1 bt148.2.1 bt148.2.2.1 bt148.2.2.2).bind fun t154 => ((laws_toNode.f k a0_0 a0_1 a0_2 l0_3).bind fun bt155 => ((laws_toNode.f k a1_0 a1_1 a1_2 l1_3).bind fun bt162 => ((impl_SameNode.f k bt155.1 bt155.2.1 bt155.2.2.1 bt155.2.2.2 bt162.1 bt162.2.1 bt162.2.2.1 bt162.2.2.2).bind fun t169 => (if (t169 != t154) = true then (some false) else ((laws_toNode.f k a0_0 a0_1 a0_2 l0_3).bind fun bt170 => ((laws_eqNode.f k bt155.1 bt155.2.1 bt155.2.2.1 bt155.2.2.2 bt170.1 bt170.2.1 bt170.2.2.1 bt170.2.2.2).bind fun t176 => (if t176 = true then ((laws_toNode.f k a1_0 a1_1 a1_2 l1_3).bind fun bt177 => ((laws_eqNode.f k bt162.1 bt162.2.1 bt162.2.2.1 bt162.2.2.2 bt177.1 bt177.2.1 bt177.2.2.1 bt177.2.2.2).bind fun t183 => (if t183 = true then (some true) else (some false)))) else (some false))))))))))))))

set_option maxHeartbeats 8000000 in
set_option maxRecDepth 100000 in
theorem laws_FnExactSameNode.calls (k : Nat) (a0_0 : ByteArray) (a0_1 : ByteArray) (a0_2 : ByteArray) (A0_3 : Option Addr) (c0_3 : Nat) (l0_3 : List (S35)) (a1_0 : ByteArray) (a1_1 : ByteArray) (a1_2 : ByteArray) (A1_3 : Option Addr) (c1_3 : Nat) (l1_3 : List (S35)) (r : Bool) (w : World) (hr0_3 : Kd.C k35 w A0_3 l0_3.length l0_3) (hc0_3 : l0_3.length ≤ c0_3) (hr1_3 : Kd.C k35 w A1_3 l1_3.length l1_3) (hc1_3 : l1_3.length ≤ c1_3) (h : laws_FnExactSameNode.f k a0_0 a0_1 a0_2 l0_3 a1_0 a1_1 a1_2 l1_3 = some r) :
  Calls Try.prog 5 #[.agg #[.string a0_0, .string a0_1, .string a0_2, .slice A0_3 l0_3.length c0_3], .agg #[.string a1_0, .string a1_1, .string a1_2, .slice A1_3 l1_3.length c1_3]] w fun e w' => e = .returned (.bool r) ∧ Below w.heap.size w w' := by
 have hu35 := Try.underlying35
 have hu40 := Try.underlying40
 have HR0_3 := Aside0.mk hr0_3
 have HC0_3 := Aside0.mk hc0_3
 clear hr0_3 hc0_3
 have HR1_3 := Aside0.mk hr1_3
 have HC1_3 := Aside0.mk hc1_3
 clear hr1_3 hc1_3
 have HB := Aside0.mk (Below.refl w.heap.size w)
 have H : ((laws_szNode.f k a0_0 a0_1 a0_2 l0_3 1048576).bind fun t140 => (if t140 < 0 then (some true) else ((laws_szNode.f k a1_0 a1_1 a1_2 l1_3 t140).bind fun t141 => (if t141 < 0 then (some true) else ((laws_toNode.f k a0_0 a0_1 a0_2 l0_3).bind fun bt142 => ((laws_toNode.f k a1_0 a1_1 a1_2 l1_3).bind fun bt148 => ((spec_SameNode.f k bt142.1 bt142.2.1 bt142.2.2.1 bt142.2.2.2 bt148.1 bt148.2.1 bt148.2.2.1 bt148.2.2.2).bind fun t154 => ((laws_toNode.f k a0_0 a0_1 a0_2 l0_3).bind fun bt155 => ((laws_toNode.f k a1_0 a1_1 a1_2 l1_3).bind fun bt162 => ((impl_SameNode.f k bt155.1 bt155.2.1 bt155.2.2.1 bt155.2.2.2 bt162.1 bt162.2.1 bt162.2.2.1 bt162.2.2.2).bind fun t169 => (if (t169 != t154) = true then (some false) else ((laws_toNode.f k a0_0 a0_1 a0_2 l0_3).bind fun bt170 => ((laws_eqNode.f k bt155.1 bt155.2.1 bt155.2.2.1 bt155.2.2.2 bt170.1 bt170.2.1 bt170.2.2.1 bt170.2.2.2).bind fun t176 => (if t176 = true then ((laws_toNode.f k a1_0 a1_1 a1_2 l1_3).bind fun bt177 => ((laws_eqNode.f k bt162.1 bt162.2.1 bt162.2.2.1 bt162.2.2.2 bt177.1 bt177.2.1 bt177.2.2.1 bt177.2.2.2).bind fun t183 => (if t183 = true then (some true) else (some false)))) else (some false))))))))))))))) = some r := h
 clear h
 replace H := Option.bind_eq_some_iff.mp H
 obtain ⟨t140, A30, H⟩ := H
 replace H : (if t140 < 0 then (some true) else ((laws_szNode.f k a1_0 a1_1 a1_2 l1_3 t140).bind fun t141 => (if t141 < 0 then (some true) else ((laws_toNode.f k a0_0 a0_1 a0_2 l0_3).bind fun bt142 => ((laws_toNode.f k a1_0 a1_1 a1_2 l1_3).bind fun bt148 => ((spec_SameNode.f k bt142.1 bt142.2.1 bt142.2.2.1 bt142.2.2.2 bt148.1 bt148.2.1 bt148.2.2.1 bt148.2.2.2).bind fun t154 => ((laws_toNode.f k a0_0 a0_1 a0_2 l0_3).bind fun bt155 => ((laws_toNode.f k a1_0 a1_1 a1_2 l1_3).bind fun bt162 => ((impl_SameNode.f k bt155.1 bt155.2.1 bt155.2.2.1 bt155.2.2.2 bt162.1 bt162.2.1 bt162.2.2.1 bt162.2.2.2).bind fun t169 => (if (t169 != t154) = true then (some false) else ((laws_toNode.f k a0_0 a0_1 a0_2 l0_3).bind fun bt170 => ((laws_eqNode.f k bt155.1 bt155.2.1 bt155.2.2.1 bt155.2.2.2 bt170.1 bt170.2.1 bt170.2.2.1 bt170.2.2.2).bind fun t176 => (if t176 = true then ((laws_toNode.f k a1_0 a1_1 a1_2 l1_3).bind fun bt177 => ((laws_eqNode.f k bt162.1 bt162.2.1 bt162.2.2.1 bt162.2.2.2 bt177.1 bt177.2.1 bt177.2.2.1 bt177.2.2.2).bind fun t183 => (if t183 = true then (some true) else (some false)))) else (some false)))))))))))))) = some r := H
 have A3 := Aside0.mk A30
 clear A30
 by_cases c4 : t140 < 0
 ·rw [if_pos c4] at H
  have c4b0 : decide (t140 < 0) = true := decide_eq_true c4
  clear c4
  obtain rfl := Option.some.inj H
  go_enter Try.func5, Try.ntmps5
  go_wp2_with (first | ((with_reducible refine gate_dst (N := 2) rfl ?_); refine box_event ?hg (N := 2) ?hd (cs := #[.string a0_0, .string a0_1, .string a0_2, .slice A0_3 l0_3.length c0_3]) (t := 35) ?hr ?_; (case hd => rfl); (case hg => rfl); (case hr => first | (go_simp; done) | (go_simp; rfl)); intro gb138 hg w5 hbox hb; have n0_ := Aside0.mk (below_step (by repeat (first | (with_reducible first | exact HB.out | apply aB_ | apply pN_ | apply dB_) | exact HB.out)) hb); have n1_ := Aside0.mk (hbox); have n2_ := Aside0.mk ((by rw [hg]; exact (below_size (by repeat (first | (with_reducible first | exact HB.out | apply aB_ | apply pN_ | apply dB_) | exact HB.out))) : w.heap.size ≤ gb138)); have n3_ := Aside0.mk ((by rw [hg]; exact (below_size (by repeat (first | (with_reducible first | exact HB.out | apply aB_ | apply pN_ | apply dB_) | exact HB.out))) : w.heap.size ≤ gb138)); clear HB; have HB := n0_; have BK138 := n1_; have GW138 := n2_; have GE138 := n3_; clear n0_ n1_ n2_ n3_; clear hb hbox hg) | ((with_reducible refine gate_dst (N := 3) rfl ?_); refine box_event ?hg (N := 3) ?hd (cs := #[.string a1_0, .string a1_1, .string a1_2, .slice A1_3 l1_3.length c1_3]) (t := 35) ?hr ?_; (case hd => rfl); (case hg => rfl); (case hr => first | (go_simp; done) | (go_simp; rfl)); intro gb139 hg w6 hbox hb; have n0_ := Aside0.mk (bB_ (g := gb138) (o := .cells #[.string a0_0, .string a0_1, .string a0_2, .slice A0_3 l0_3.length c0_3] 35 (0, 0)) (by (with_reducible repeat (first | refine bN_ ?_ _ | refine bD_ ?_ | refine bA_ ?_ _)); exact BK138.out) hb); have n1_ := Aside0.mk (below_step (by repeat (first | (with_reducible first | exact HB.out | apply aB_ | apply pN_ | apply dB_ | refine sB_ ?_ GE138.out) | exact HB.out)) hb); have n2_ := Aside0.mk (hbox); have n3_ := Aside0.mk ((by rw [hg]; exact (below_size (by repeat (first | (with_reducible first | exact HB.out | apply aB_ | apply pN_ | apply dB_ | refine sB_ ?_ GE138.out) | exact HB.out))) : w.heap.size ≤ gb139)); have n4_ := Aside0.mk ((by rw [hg]; exact (below_size (by repeat (first | (with_reducible first | exact HB.out | apply aB_ | apply pN_ | apply dB_ | refine sB_ ?_ GE138.out) | exact HB.out))) : w.heap.size ≤ gb139)); have n5_ := Aside0.mk ((by rw [hg]; exact Nat.ne_of_lt (blk_lt (g := gb138) (o := .cells #[.string a0_0, .string a0_1, .string a0_2, .slice A0_3 l0_3.length c0_3] 35 (0, 0)) (by (with_reducible repeat (first | refine bN_ ?_ _ | refine bD_ ?_ | refine bA_ ?_ _)); exact BK138.out)) : gb138 ≠ gb139)); have n6_ := Aside0.mk ((by rw [hg]; exact Nat.ne_of_gt (blk_lt (g := gb138) (o := .cells #[.string a0_0, .string a0_1, .string a0_2, .slice A0_3 l0_3.length c0_3] 35 (0, 0)) (by (with_reducible repeat (first | refine bN_ ?_ _ | refine bD_ ?_ | refine bA_ ?_ _)); exact BK138.out)) : gb139 ≠ gb138)); clear BK138; clear HB; have BK138 := n0_; have HB := n1_; have BK139 := n2_; have GW139 := n3_; have GE139 := n4_; have NB138_139 := n5_; have NB139_138 := n6_; clear n0_ n1_ n2_ n3_ n4_ n5_ n6_; clear hb hbox hg; have hnb7 := NB138_139.out; have hnc7 := NB139_138.out; have hcz8_0 : w6.cell? ⟨gb138, 0, none⟩ = some (.string a0_0) := (bc_ BK138.out 0).trans rfl; have hcz8_1 : w6.cell? ⟨gb138, 1, none⟩ = some (.string a0_1) := (bc_ BK138.out 1).trans rfl; have hcz8_2 : w6.cell? ⟨gb138, 2, none⟩ = some (.string a0_2) := (bc_ BK138.out 2).trans rfl; have hcz8_3 : w6.cell? ⟨gb138, 3, none⟩ = some (.slice A0_3 l0_3.length c0_3) := (bc_ BK138.out 3).trans rfl; have hfz8_0 := bF_ BK138.out 0; have hfz8_1 := bF_ BK138.out 1; have hfz8_2 := bF_ BK138.out 2; have hfz8_3 := bF_ BK138.out 3) | ((with_reducible refine gate_callee (f := 22) rfl ?_); refine goesL_ (some 12) rfl rfl Try.func22 (by kernel_rfl) rfl #[.agg #[.string a0_0, .string a0_1, .string a0_2, .slice A0_3 l0_3.length c0_3], .int .i64 1048576] rfl (by (try simp only [List.map_toArray, List.map_cons, List.map_nil]); first | done | rfl | (simp only [List.length_drop, List.length_take]; rfl)) ?_; (with_reducible refine (laws_szNode.calls k a0_0 a0_1 a0_2 _ _ l0_3 1048576 t140 _ ?side1 ?side2 A3.out).mono ?_); (case side1 => repeat (first | exact (Kd.C_below HR0_3.out HB.out) | (with_reducible refine Kd.C_alloc ?_ _) | (with_reducible refine Kd.C_drewN ?_ _) | (with_reducible refine Kd.C_drew ?_))); (case side2 => exact HC0_3.out); rintro e w9 ⟨rfl, hb⟩; refine ⟨_, rfl, ?_⟩; have n0_ := Aside0.mk (bB_ (g := gb138) (o := .cells #[.string a0_0, .string a0_1, .string a0_2, .slice A0_3 l0_3.length c0_3] 35 (0, 0)) (by (with_reducible repeat (first | refine bN_ ?_ _ | refine bD_ ?_ | refine bA_ ?_ _)); exact BK138.out) hb); have n1_ := Aside0.mk (bB_ (g := gb139) (o := .cells #[.string a1_0, .string a1_1, .string a1_2, .slice A1_3 l1_3.length c1_3] 35 (0, 0)) (by (with_reducible repeat (first | refine bN_ ?_ _ | refine bD_ ?_ | refine bA_ ?_ _)); exact BK139.out) hb); have n2_ := Aside0.mk (below_step (by repeat (first | (with_reducible first | exact HB.out | apply aB_ | apply pN_ | apply dB_ | refine sB_ ?_ GE138.out | refine sB_ ?_ GE139.out) | exact HB.out)) hb); clear BK138; clear BK139; clear HB; have BK138 := n0_; have BK139 := n1_; have HB := n2_; clear n0_ n1_ n2_; (try clear hb); (try clear hb2); (try clear hk); (try clear hi)))
  go_ret
  exact ⟨by first | rfl | (simp [errW_none, errW_some] <;> rfl) | (simp [*, errW_none, errW_some] <;> rfl), by repeat (first | (with_reducible first | exact HB.out | apply aB_ | apply pN_ | apply dB_ | refine sB_ ?_ GE138.out | refine sB_ ?_ GE139.out) | exact HB.out)⟩
 ·rw [if_neg c4] at H
  have c4b0 : decide (t140 < 0) = false := decide_eq_false c4
  clear c4
  replace H := Option.bind_eq_some_iff.mp H
  obtain ⟨t141, A100, H⟩ := H
  replace H : (if t141 < 0 then (some true) else ((laws_toNode.f k a0_0 a0_1 a0_2 l0_3).bind fun bt142 => ((laws_toNode.f k a1_0 a1_1 a1_2 l1_3).bind fun bt148 => ((spec_SameNode.f k bt142.1 bt142.2.1 bt142.2.2.1 bt142.2.2.2 bt148.1 bt148.2.1 bt148.2.2.1 bt148.2.2.2).bind fun t154 => ((laws_toNode.f k a0_0 a0_1 a0_2 l0_3).bind fun bt155 => ((laws_toNode.f k a1_0 a1_1 a1_2 l1_3).bind fun bt162 => ((impl_SameNode.f k bt155.1 bt155.2.1 bt155.2.2.1 bt155.2.2.2 bt162.1 bt162.2.1 bt162.2.2.1 bt162.2.2.2).bind fun t169 => (if (t169 != t154) = true then (some false) else ((laws_toNode.f k a0_0 a0_1 a0_2 l0_3).bind fun bt170 => ((laws_eqNode.f k bt155.1 bt155.2.1 bt155.2.2.1 bt155.2.2.2 bt170.1 bt170.2.1 bt170.2.2.1 bt170.2.2.2).bind fun t176 => (if t176 = true then ((laws_toNode.f k a1_0 a1_1 a1_2 l1_3).bind fun bt177 => ((laws_eqNode.f k bt162.1 bt162.2.1 bt162.2.2.1 bt162.2.2.2 bt177.1 bt177.2.1 bt177.2.2.1 bt177.2.2.2).bind fun t183 => (if t183 = true then (some true) else (some false)))) else (some false)))))))))))) = some r := H
  have A10 := Aside0.mk A100
  clear A100
  by_cases c11 : t141 < 0
  ·rw [if_pos c11] at H
   have c11b0 : decide (t141 < 0) = true := decide_eq_true c11
   clear c11
   obtain rfl := Option.some.inj H
   go_enter Try.func5, Try.ntmps5
   go_wp2_with (first | ((with_reducible refine gate_dst (N := 2) rfl ?_); refine box_event ?hg (N := 2) ?hd (cs := #[.string a0_0, .string a0_1, .string a0_2, .slice A0_3 l0_3.length c0_3]) (t := 35) ?hr ?_; (case hd => rfl); (case hg => rfl); (case hr => first | (go_simp; done) | (go_simp; rfl)); intro gb138 hg w12 hbox hb; have n0_ := Aside0.mk (below_step (by repeat (first | (with_reducible first | exact HB.out | apply aB_ | apply pN_ | apply dB_) | exact HB.out)) hb); have n1_ := Aside0.mk (hbox); have n2_ := Aside0.mk ((by rw [hg]; exact (below_size (by repeat (first | (with_reducible first | exact HB.out | apply aB_ | apply pN_ | apply dB_) | exact HB.out))) : w.heap.size ≤ gb138)); have n3_ := Aside0.mk ((by rw [hg]; exact (below_size (by repeat (first | (with_reducible first | exact HB.out | apply aB_ | apply pN_ | apply dB_) | exact HB.out))) : w.heap.size ≤ gb138)); clear HB; have HB := n0_; have BK138 := n1_; have GW138 := n2_; have GE138 := n3_; clear n0_ n1_ n2_ n3_; clear hb hbox hg) | ((with_reducible refine gate_dst (N := 3) rfl ?_); refine box_event ?hg (N := 3) ?hd (cs := #[.string a1_0, .string a1_1, .string a1_2, .slice A1_3 l1_3.length c1_3]) (t := 35) ?hr ?_; (case hd => rfl); (case hg => rfl); (case hr => first | (go_simp; done) | (go_simp; rfl)); intro gb139 hg w13 hbox hb; have n0_ := Aside0.mk (bB_ (g := gb138) (o := .cells #[.string a0_0, .string a0_1, .string a0_2, .slice A0_3 l0_3.length c0_3] 35 (0, 0)) (by (with_reducible repeat (first | refine bN_ ?_ _ | refine bD_ ?_ | refine bA_ ?_ _)); exact BK138.out) hb); have n1_ := Aside0.mk (below_step (by repeat (first | (with_reducible first | exact HB.out | apply aB_ | apply pN_ | apply dB_ | refine sB_ ?_ GE138.out) | exact HB.out)) hb); have n2_ := Aside0.mk (hbox); have n3_ := Aside0.mk ((by rw [hg]; exact (below_size (by repeat (first | (with_reducible first | exact HB.out | apply aB_ | apply pN_ | apply dB_ | refine sB_ ?_ GE138.out) | exact HB.out))) : w.heap.size ≤ gb139)); have n4_ := Aside0.mk ((by rw [hg]; exact (below_size (by repeat (first | (with_reducible first | exact HB.out | apply aB_ | apply pN_ | apply dB_ | refine sB_ ?_ GE138.out) | exact HB.out))) : w.heap.size ≤ gb139)); have n5_ := Aside0.mk ((by rw [hg]; exact Nat.ne_of_lt (blk_lt (g := gb138) (o := .cells #[.string a0_0, .string a0_1, .string a0_2, .slice A0_3 l0_3.length c0_3] 35 (0, 0)) (by (with_reducible repeat (first | refine bN_ ?_ _ | refine bD_ ?_ | refine bA_ ?_ _)); exact BK138.out)) : gb138 ≠ gb139)); have n6_ := Aside0.mk ((by rw [hg]; exact Nat.ne_of_gt (blk_lt (g := gb138) (o := .cells #[.string a0_0, .string a0_1, .string a0_2, .slice A0_3 l0_3.length c0_3] 35 (0, 0)) (by (with_reducible repeat (first | refine bN_ ?_ _ | refine bD_ ?_ | refine bA_ ?_ _)); exact BK138.out)) : gb139 ≠ gb138)); clear BK138; clear HB; have BK138 := n0_; have HB := n1_; have BK139 := n2_; have GW139 := n3_; have GE139 := n4_; have NB138_139 := n5_; have NB139_138 := n6_; clear n0_ n1_ n2_ n3_ n4_ n5_ n6_; clear hb hbox hg; have hnb14 := NB138_139.out; have hnc14 := NB139_138.out; have hcz15_0 : w13.cell? ⟨gb138, 0, none⟩ = some (.string a0_0) := (bc_ BK138.out 0).trans rfl; have hcz15_1 : w13.cell? ⟨gb138, 1, none⟩ = some (.string a0_1) := (bc_ BK138.out 1).trans rfl; have hcz15_2 : w13.cell? ⟨gb138, 2, none⟩ = some (.string a0_2) := (bc_ BK138.out 2).trans rfl; have hcz15_3 : w13.cell? ⟨gb138, 3, none⟩ = some (.slice A0_3 l0_3.length c0_3) := (bc_ BK138.out 3).trans rfl; have hfz15_0 := bF_ BK138.out 0; have hfz15_1 := bF_ BK138.out 1; have hfz15_2 := bF_ BK138.out 2; have hfz15_3 := bF_ BK138.out 3) | ((with_reducible refine gate_callee (f := 22) rfl ?_); refine goesL_ (some 12) rfl rfl Try.func22 (by kernel_rfl) rfl #[.agg #[.string a0_0, .string a0_1, .string a0_2, .slice A0_3 l0_3.length c0_3], .int .i64 1048576] rfl (by (try simp only [List.map_toArray, List.map_cons, List.map_nil]); first | done | rfl | (simp only [List.length_drop, List.length_take]; rfl)) ?_; (with_reducible refine (laws_szNode.calls k a0_0 a0_1 a0_2 _ _ l0_3 1048576 t140 _ ?side1 ?side2 A3.out).mono ?_); (case side1 => repeat (first | exact (Kd.C_below HR0_3.out HB.out) | (with_reducible refine Kd.C_alloc ?_ _) | (with_reducible refine Kd.C_drewN ?_ _) | (with_reducible refine Kd.C_drew ?_))); (case side2 => exact HC0_3.out); rintro e w16 ⟨rfl, hb⟩; refine ⟨_, rfl, ?_⟩; have n0_ := Aside0.mk (bB_ (g := gb138) (o := .cells #[.string a0_0, .string a0_1, .string a0_2, .slice A0_3 l0_3.length c0_3] 35 (0, 0)) (by (with_reducible repeat (first | refine bN_ ?_ _ | refine bD_ ?_ | refine bA_ ?_ _)); exact BK138.out) hb); have n1_ := Aside0.mk (bB_ (g := gb139) (o := .cells #[.string a1_0, .string a1_1, .string a1_2, .slice A1_3 l1_3.length c1_3] 35 (0, 0)) (by (with_reducible repeat (first | refine bN_ ?_ _ | refine bD_ ?_ | refine bA_ ?_ _)); exact BK139.out) hb); have n2_ := Aside0.mk (below_step (by repeat (first | (with_reducible first | exact HB.out | apply aB_ | apply pN_ | apply dB_ | refine sB_ ?_ GE138.out | refine sB_ ?_ GE139.out) | exact HB.out)) hb); clear BK138; clear BK139; clear HB; have BK138 := n0_; have BK139 := n1_; have HB := n2_; clear n0_ n1_ n2_; (try clear hb); (try clear hb2); (try clear hk); (try clear hi); have hcz17_0 : w16.cell? ⟨gb139, 0, none⟩ = some (.string a1_0) := (bc_ BK139.out 0).trans rfl; have hcz17_1 : w16.cell? ⟨gb139, 1, none⟩ = some (.string a1_1) := (bc_ BK139.out 1).trans rfl; have hcz17_2 : w16.cell? ⟨gb139, 2, none⟩ = some (.string a1_2) := (bc_ BK139.out 2).trans rfl; have hcz17_3 : w16.cell? ⟨gb139, 3, none⟩ = some (.slice A1_3 l1_3.length c1_3) := (bc_ BK139.out 3).trans rfl; have hfz17_0 := bF_ BK139.out 0; have hfz17_1 := bF_ BK139.out 1; have hfz17_2 := bF_ BK139.out 2; have hfz17_3 := bF_ BK139.out 3) | ((with_reducible refine gate_callee (f := 22) rfl ?_); refine goesL_ (some 17) rfl rfl Try.func22 (by kernel_rfl) rfl #[.agg #[.string a1_0, .string a1_1, .string a1_2, .slice A1_3 l1_3.length c1_3], .int .i64 t140] rfl (by (try simp only [List.map_toArray, List.map_cons, List.map_nil]); first | done | rfl | (simp only [List.length_drop, List.length_take]; rfl)) ?_; (with_reducible refine (laws_szNode.calls k a1_0 a1_1 a1_2 _ _ l1_3 t140 t141 _ ?side1 ?side2 A10.out).mono ?_); (case side1 => repeat (first | exact (Kd.C_below HR1_3.out HB.out) | (with_reducible refine Kd.C_alloc ?_ _) | (with_reducible refine Kd.C_drewN ?_ _) | (with_reducible refine Kd.C_drew ?_))); (case side2 => exact HC1_3.out); rintro e w18 ⟨rfl, hb⟩; refine ⟨_, rfl, ?_⟩; have n0_ := Aside0.mk (bB_ (g := gb138) (o := .cells #[.string a0_0, .string a0_1, .string a0_2, .slice A0_3 l0_3.length c0_3] 35 (0, 0)) (by (with_reducible repeat (first | refine bN_ ?_ _ | refine bD_ ?_ | refine bA_ ?_ _)); exact BK138.out) hb); have n1_ := Aside0.mk (bB_ (g := gb139) (o := .cells #[.string a1_0, .string a1_1, .string a1_2, .slice A1_3 l1_3.length c1_3] 35 (0, 0)) (by (with_reducible repeat (first | refine bN_ ?_ _ | refine bD_ ?_ | refine bA_ ?_ _)); exact BK139.out) hb); have n2_ := Aside0.mk (below_step (by repeat (first | (with_reducible first | exact HB.out | apply aB_ | apply pN_ | apply dB_ | refine sB_ ?_ GE138.out | refine sB_ ?_ GE139.out) | exact HB.out)) hb); clear BK138; clear BK139; clear HB; have BK138 := n0_; have BK139 := n1_; have HB := n2_; clear n0_ n1_ n2_; (try clear hb); (try clear hb2); (try clear hk); (try clear hi)))
   go_ret
   exact ⟨by first | rfl | (simp [errW_none, errW_some] <;> rfl) | (simp [*, errW_none, errW_some] <;> rfl), by repeat (first | (with_reducible first | exact HB.out | apply aB_ | apply pN_ | apply dB_ | refine sB_ ?_ GE138.out | refine sB_ ?_ GE139.out) | exact HB.out)⟩
  ·rw [if_neg c11] at H
   have c11b0 : decide (t141 < 0) = false := decide_eq_false c11
   clear c11
   replace H := Option.bind_eq_some_iff.mp H
   obtain ⟨⟨t142, t143, t144, t145⟩, A190, H⟩ := H
   replace H : ((laws_toNode.f k a1_0 a1_1 a1_2 l1_3).bind fun bt148 => ((spec_SameNode.f k t142 t143 t144 t145 bt148.1 bt148.2.1 bt148.2.2.1 bt148.2.2.2).bind fun t154 => ((laws_toNode.f k a0_0 a0_1 a0_2 l0_3).bind fun bt155 => ((laws_toNode.f k a1_0 a1_1 a1_2 l1_3).bind fun bt162 => ((impl_SameNode.f k bt155.1 bt155.2.1 bt155.2.2.1 bt155.2.2.2 bt162.1 bt162.2.1 bt162.2.2.1 bt162.2.2.2).bind fun t169 => (if (t169 != t154) = true then (some false) else ((laws_toNode.f k a0_0 a0_1 a0_2 l0_3).bind fun bt170 => ((laws_eqNode.f k bt155.1 bt155.2.1 bt155.2.2.1 bt155.2.2.2 bt170.1 bt170.2.1 bt170.2.2.1 bt170.2.2.2).bind fun t176 => (if t176 = true then ((laws_toNode.f k a1_0 a1_1 a1_2 l1_3).bind fun bt177 => ((laws_eqNode.f k bt162.1 bt162.2.1 bt162.2.2.1 bt162.2.2.2 bt177.1 bt177.2.1 bt177.2.2.1 bt177.2.2.2).bind fun t183 => (if t183 = true then (some true) else (some false)))) else (some false)))))))))) = some r := H
   have A19 := Aside0.mk A190
   clear A190
   replace H := Option.bind_eq_some_iff.mp H
   obtain ⟨⟨t148, t149, t150, t151⟩, A200, H⟩ := H
   replace H : ((spec_SameNode.f k t142 t143 t144 t145 t148 t149 t150 t151).bind fun t154 => ((laws_toNode.f k a0_0 a0_1 a0_2 l0_3).bind fun bt155 => ((laws_toNode.f k a1_0 a1_1 a1_2 l1_3).bind fun bt162 => ((impl_SameNode.f k bt155.1 bt155.2.1 bt155.2.2.1 bt155.2.2.2 bt162.1 bt162.2.1 bt162.2.2.1 bt162.2.2.2).bind fun t169 => (if (t169 != t154) = true then (some false) else ((laws_toNode.f k a0_0 a0_1 a0_2 l0_3).bind fun bt170 => ((laws_eqNode.f k bt155.1 bt155.2.1 bt155.2.2.1 bt155.2.2.2 bt170.1 bt170.2.1 bt170.2.2.1 bt170.2.2.2).bind fun t176 => (if t176 = true then ((laws_toNode.f k a1_0 a1_1 a1_2 l1_3).bind fun bt177 => ((laws_eqNode.f k bt162.1 bt162.2.1 bt162.2.2.1 bt162.2.2.2 bt177.1 bt177.2.1 bt177.2.2.1 bt177.2.2.2).bind fun t183 => (if t183 = true then (some true) else (some false)))) else (some false))))))))) = some r := H
   have A20 := Aside0.mk A200
   clear A200
   replace H := Option.bind_eq_some_iff.mp H
   obtain ⟨t154, A210, H⟩ := H
   replace H : ((laws_toNode.f k a0_0 a0_1 a0_2 l0_3).bind fun bt155 => ((laws_toNode.f k a1_0 a1_1 a1_2 l1_3).bind fun bt162 => ((impl_SameNode.f k bt155.1 bt155.2.1 bt155.2.2.1 bt155.2.2.2 bt162.1 bt162.2.1 bt162.2.2.1 bt162.2.2.2).bind fun t169 => (if (t169 != t154) = true then (some false) else ((laws_toNode.f k a0_0 a0_1 a0_2 l0_3).bind fun bt170 => ((laws_eqNode.f k bt155.1 bt155.2.1 bt155.2.2.1 bt155.2.2.2 bt170.1 bt170.2.1 bt170.2.2.1 bt170.2.2.2).bind fun t176 => (if t176 = true then ((laws_toNode.f k a1_0 a1_1 a1_2 l1_3).bind fun bt177 => ((laws_eqNode.f k bt162.1 bt162.2.1 bt162.2.2.1 bt162.2.2.2 bt177.1 bt177.2.1 bt177.2.2.1 bt177.2.2.2).bind fun t183 => (if t183 = true then (some true) else (some false)))) else (some false)))))))) = some r := H
   have A21 := Aside0.mk A210
   clear A210
   replace H := Option.bind_eq_some_iff.mp H
   obtain ⟨⟨t155, t156, t157, t158⟩, A220, H⟩ := H
   replace H : ((laws_toNode.f k a1_0 a1_1 a1_2 l1_3).bind fun bt162 => ((impl_SameNode.f k t155 t156 t157 t158 bt162.1 bt162.2.1 bt162.2.2.1 bt162.2.2.2).bind fun t169 => (if (t169 != t154) = true then (some false) else ((laws_toNode.f k a0_0 a0_1 a0_2 l0_3).bind fun bt170 => ((laws_eqNode.f k t155 t156 t157 t158 bt170.1 bt170.2.1 bt170.2.2.1 bt170.2.2.2).bind fun t176 => (if t176 = true then ((laws_toNode.f k a1_0 a1_1 a1_2 l1_3).bind fun bt177 => ((laws_eqNode.f k bt162.1 bt162.2.1 bt162.2.2.1 bt162.2.2.2 bt177.1 bt177.2.1 bt177.2.2.1 bt177.2.2.2).bind fun t183 => (if t183 = true then (some true) else (some false)))) else (some false))))))) = some r := H
   have A22 := Aside0.mk A220
   clear A220
   replace H := Option.bind_eq_some_iff.mp H
   obtain ⟨⟨t162, t163, t164, t165⟩, A230, H⟩ := H
   replace H : ((impl_SameNode.f k t155 t156 t157 t158 t162 t163 t164 t165).bind fun t169 => (if (t169 != t154) = true then (some false) else ((laws_toNode.f k a0_0 a0_1 a0_2 l0_3).bind fun bt170 => ((laws_eqNode.f k t155 t156 t157 t158 bt170.1 bt170.2.1 bt170.2.2.1 bt170.2.2.2).bind fun t176 => (if t176 = true then ((laws_toNode.f k a1_0 a1_1 a1_2 l1_3).bind fun bt177 => ((laws_eqNode.f k t162 t163 t164 t165 bt177.1 bt177.2.1 bt177.2.2.1 bt177.2.2.2).bind fun t183 => (if t183 = true then (some true) else (some false)))) else (some false)))))) = some r := H
   have A23 := Aside0.mk A230
   clear A230
   replace H := Option.bind_eq_some_iff.mp H
   obtain ⟨t169, A240, H⟩ := H
   replace H : (if (t169 != t154) = true then (some false) else ((laws_toNode.f k a0_0 a0_1 a0_2 l0_3).bind fun bt170 => ((laws_eqNode.f k t155 t156 t157 t158 bt170.1 bt170.2.1 bt170.2.2.1 bt170.2.2.2).bind fun t176 => (if t176 = true then ((laws_toNode.f k a1_0 a1_1 a1_2 l1_3).bind fun bt177 => ((laws_eqNode.f k t162 t163 t164 t165 bt177.1 bt177.2.1 bt177.2.2.1 bt177.2.2.2).bind fun t183 => (if t183 = true then (some true) else (some false)))) else (some false))))) = some r := H
   have A24 := Aside0.mk A240
   clear A240
   by_cases c25 : (t169 != t154) = true
   ·rw [if_pos c25] at H
    have c25b0 : (t169 != t154) = true := c25
    (try (have c25b1 : decide (t169 = t154) = false := by simpa using c25))
    (try (have c25b2 : (t169 == t154) = false := by simpa using c25))
    (try (have c25b3 : ¬ (t169 = t154) := by simpa using c25))
    clear c25
    obtain rfl := Option.some.inj H
    go_enter Try.func5, Try.ntmps5
    try go_wp2_with (first | ((with_reducible refine gate_dst (N := 2) rfl ?_); refine box_event ?hg (N := 2) ?hd (cs := #[.string a0_0, .string a0_1, .string a0_2, .slice A0_3 l0_3.length c0_3]) (t := 35) ?hr ?_; (case hd => rfl); (case hg => rfl); (case hr => first | (go_simp; done) | (go_simp; rfl)); intro gb138 hg w26 hbox hb; have n0_ := Aside0.mk (below_step (by repeat (first | (with_reducible first | exact HB.out | apply aB_ | apply pN_ | apply dB_) | exact HB.out)) hb); have n1_ := Aside0.mk (hbox); have n2_ := Aside0.mk ((by rw [hg]; exact (below_size (by repeat (first | (with_reducible first | exact HB.out | apply aB_ | apply pN_ | apply dB_) | exact HB.out))) : w.heap.size ≤ gb138)); have n3_ := Aside0.mk ((by rw [hg]; exact (below_size (by repeat (first | (with_reducible first | exact HB.out | apply aB_ | apply pN_ | apply dB_) | exact HB.out))) : w.heap.size ≤ gb138)); clear HB; have HB := n0_; have BK138 := n1_; have GW138 := n2_; have GE138 := n3_; clear n0_ n1_ n2_ n3_; clear hb hbox hg) | ((with_reducible refine gate_dst (N := 3) rfl ?_); refine box_event ?hg (N := 3) ?hd (cs := #[.string a1_0, .string a1_1, .string a1_2, .slice A1_3 l1_3.length c1_3]) (t := 35) ?hr ?_; (case hd => rfl); (case hg => rfl); (case hr => first | (go_simp; done) | (go_simp; rfl)); intro gb139 hg w27 hbox hb; have n0_ := Aside0.mk (bB_ (g := gb138) (o := .cells #[.string a0_0, .string a0_1, .string a0_2, .slice A0_3 l0_3.length c0_3] 35 (0, 0)) (by (with_reducible repeat (first | refine bN_ ?_ _ | refine bD_ ?_ | refine bA_ ?_ _)); exact BK138.out) hb); have n1_ := Aside0.mk (below_step (by repeat (first | (with_reducible first | exact HB.out | apply aB_ | apply pN_ | apply dB_ | refine sB_ ?_ GE138.out) | exact HB.out)) hb); have n2_ := Aside0.mk (hbox); have n3_ := Aside0.mk ((by rw [hg]; exact (below_size (by repeat (first | (with_reducible first | exact HB.out | apply aB_ | apply pN_ | apply dB_ | refine sB_ ?_ GE138.out) | exact HB.out))) : w.heap.size ≤ gb139)); have n4_ := Aside0.mk ((by rw [hg]; exact (below_size (by repeat (first | (with_reducible first | exact HB.out | apply aB_ | apply pN_ | apply dB_ | refine sB_ ?_ GE138.out) | exact HB.out))) : w.heap.size ≤ gb139)); have n5_ := Aside0.mk ((by rw [hg]; exact Nat.ne_of_lt (blk_lt (g := gb138) (o := .cells #[.string a0_0, .string a0_1, .string a0_2, .slice A0_3 l0_3.length c0_3] 35 (0, 0)) (by (with_reducible repeat (first | refine bN_ ?_ _ | refine bD_ ?_ | refine bA_ ?_ _)); exact BK138.out)) : gb138 ≠ gb139)); have n6_ := Aside0.mk ((by rw [hg]; exact Nat.ne_of_gt (blk_lt (g := gb138) (o := .cells #[.string a0_0, .string a0_1, .string a0_2, .slice A0_3 l0_3.length c0_3] 35 (0, 0)) (by (with_reducible repeat (first | refine bN_ ?_ _ | refine bD_ ?_ | refine bA_ ?_ _)); exact BK138.out)) : gb139 ≠ gb138)); clear BK138; clear HB; have BK138 := n0_; have HB := n1_; have BK139 := n2_; have GW139 := n3_; have GE139 := n4_; have NB138_139 := n5_; have NB139_138 := n6_; clear n0_ n1_ n2_ n3_ n4_ n5_ n6_; clear hb hbox hg; have hnb28 := NB138_139.out; have hnc28 := NB139_138.out; have hcz29_0 : w27.cell? ⟨gb138, 0, none⟩ = some (.string a0_0) := (bc_ BK138.out 0).trans rfl; have hcz29_1 : w27.cell? ⟨gb138, 1, none⟩ = some (.string a0_1) := (bc_ BK138.out 1).trans rfl; have hcz29_2 : w27.cell? ⟨gb138, 2, none⟩ = some (.string a0_2) := (bc_ BK138.out 2).trans rfl; have hcz29_3 : w27.cell? ⟨gb138, 3, none⟩ = some (.slice A0_3 l0_3.length c0_3) := (bc_ BK138.out 3).trans rfl; have hfz29_0 := bF_ BK138.out 0; have hfz29_1 := bF_ BK138.out 1; have hfz29_2 := bF_ BK138.out 2; have hfz29_3 := bF_ BK138.out 3) | ((with_reducible refine gate_callee (f := 22) rfl ?_); refine goesL_ (some 12) rfl rfl Try.func22 (by kernel_rfl) rfl #[.agg #[.string a0_0, .string a0_1, .string a0_2, .slice A0_3 l0_3.length c0_3], .int .i64 1048576] rfl (by (try simp only [List.map_toArray, List.map_cons, List.map_nil]); first | done | rfl | (simp only [List.length_drop, List.length_take]; rfl)) ?_; (with_reducible refine (laws_szNode.calls k a0_0 a0_1 a0_2 _ _ l0_3 1048576 t140 _ ?side1 ?side2 A3.out).mono ?_); (case side1 => repeat (first | exact (Kd.C_below HR0_3.out HB.out) | (with_reducible refine Kd.C_alloc ?_ _) | (with_reducible refine Kd.C_drewN ?_ _) | (with_reducible refine Kd.C_drew ?_))); (case side2 => exact HC0_3.out); rintro e w30 ⟨rfl, hb⟩; refine ⟨_, rfl, ?_⟩; have n0_ := Aside0.mk (bB_ (g := gb138) (o := .cells #[.string a0_0, .string a0_1, .string a0_2, .slice A0_3 l0_3.length c0_3] 35 (0, 0)) (by (with_reducible repeat (first | refine bN_ ?_ _ | refine bD_ ?_ | refine bA_ ?_ _)); exact BK138.out) hb); have n1_ := Aside0.mk (bB_ (g := gb139) (o := .cells #[.string a1_0, .string a1_1, .string a1_2, .slice A1_3 l1_3.length c1_3] 35 (0, 0)) (by (with_reducible repeat (first | refine bN_ ?_ _ | refine bD_ ?_ | refine bA_ ?_ _)); exact BK139.out) hb); have n2_ := Aside0.mk (below_step (by repeat (first | (with_reducible first | exact HB.out | apply aB_ | apply pN_ | apply dB_ | refine sB_ ?_ GE138.out | refine sB_ ?_ GE139.out) | exact HB.out)) hb); clear BK138; clear BK139; clear HB; have BK138 := n0_; have BK139 := n1_; have HB := n2_; clear n0_ n1_ n2_; (try clear hb); (try clear hb2); (try clear hk); (try clear hi); have hcz31_0 : w30.cell? ⟨gb139, 0, none⟩ = some (.string a1_0) := (bc_ BK139.out 0).trans rfl; have hcz31_1 : w30.cell? ⟨gb139, 1, none⟩ = some (.string a1_1) := (bc_ BK139.out 1).trans rfl; have hcz31_2 : w30.cell? ⟨gb139, 2, none⟩ = some (.string a1_2) := (bc_ BK139.out 2).trans rfl; have hcz31_3 : w30.cell? ⟨gb139, 3, none⟩ = some (.slice A1_3 l1_3.length c1_3) := (bc_ BK139.out 3).trans rfl; have hfz31_0 := bF_ BK139.out 0; have hfz31_1 := bF_ BK139.out 1; have hfz31_2 := bF_ BK139.out 2; have hfz31_3 := bF_ BK139.out 3) | ((with_reducible refine gate_callee (f := 22) rfl ?_); refine goesL_ (some 17) rfl rfl Try.func22 (by kernel_rfl) rfl #[.agg #[.string a1_0, .string a1_1, .string a1_2, .slice A1_3 l1_3.length c1_3], .int .i64 t140] rfl (by (try simp only [List.map_toArray, List.map_cons, List.map_nil]); first | done | rfl | (simp only [List.length_drop, List.length_take]; rfl)) ?_; (with_reducible refine (laws_szNode.calls k a1_0 a1_1 a1_2 _ _ l1_3 t140 t141 _ ?side1 ?side2 A10.out).mono ?_); (case side1 => repeat (first | exact (Kd.C_below HR1_3.out HB.out) | (with_reducible refine Kd.C_alloc ?_ _) | (with_reducible refine Kd.C_drewN ?_ _) | (with_reducible refine Kd.C_drew ?_))); (case side2 => exact HC1_3.out); rintro e w32 ⟨rfl, hb⟩; refine ⟨_, rfl, ?_⟩; have n0_ := Aside0.mk (bB_ (g := gb138) (o := .cells #[.string a0_0, .string a0_1, .string a0_2, .slice A0_3 l0_3.length c0_3] 35 (0, 0)) (by (with_reducible repeat (first | refine bN_ ?_ _ | refine bD_ ?_ | refine bA_ ?_ _)); exact BK138.out) hb); have n1_ := Aside0.mk (bB_ (g := gb139) (o := .cells #[.string a1_0, .string a1_1, .string a1_2, .slice A1_3 l1_3.length c1_3] 35 (0, 0)) (by (with_reducible repeat (first | refine bN_ ?_ _ | refine bD_ ?_ | refine bA_ ?_ _)); exact BK139.out) hb); have n2_ := Aside0.mk (below_step (by repeat (first | (with_reducible first | exact HB.out | apply aB_ | apply pN_ | apply dB_ | refine sB_ ?_ GE138.out | refine sB_ ?_ GE139.out) | exact HB.out)) hb); clear BK138; clear BK139; clear HB; have BK138 := n0_; have BK139 := n1_; have HB := n2_; clear n0_ n1_ n2_; (try clear hb); (try clear hb2); (try clear hk); (try clear hi)))
    have n0_ := Aside0.mk (bD_ BK138.out)
    have n1_ := Aside0.mk (bD_ BK139.out)
    have n2_ := Aside0.mk (dB_ HB.out)
    clear BK138
    clear BK139
    clear HB
    have BK138 := n0_
    have BK139 := n1_
    have HB := n2_
    clear n0_ n1_ n2_
    refine start_ (n := 6) (S := fun w' => w'.cell? ⟨gb138, 0, none⟩ = some (.string a0_0) ∧ w'.cell? ⟨gb138, 1, none⟩ = some (.string a0_1) ∧ w'.cell? ⟨gb138, 2, none⟩ = some (.string a0_2) ∧ w'.cell? ⟨gb138, 3, none⟩ = some (.slice A0_3 l0_3.length c0_3) ∧ w'.cell? ⟨gb139, 0, none⟩ = some (.string a1_0) ∧ w'.cell? ⟨gb139, 1, none⟩ = some (.string a1_1) ∧ w'.cell? ⟨gb139, 2, none⟩ = some (.string a1_2) ∧ w'.cell? ⟨gb139, 3, none⟩ = some (.slice A1_3 l1_3.length c1_3)) (ds := []) #[false, false, false, false, false, false] (by kernel_rfl) rfl rfl ⟨(bc_ BK138.out 0).trans rfl, (bc_ BK138.out 1).trans rfl, (bc_ BK138.out 2).trans rfl, (bc_ BK138.out 3).trans rfl, (bc_ BK139.out 0).trans rfl, (bc_ BK139.out 1).trans rfl, (bc_ BK139.out 2).trans rfl, (bc_ BK139.out 3).trans rfl⟩ (fun hHeld => ?_)
    generalize w32.drew = w33 at BK138 BK139 HB hHeld ⊢
    refine take_ (i := 0) (N := some 20) (v := ?_) (a' := ?_) #[true, false, false, false, false, false] rfl rfl (by kernel_rfl) (fun _ _ _ h => h) (Or.inl ⟨by rfl, ?_⟩) hHeld ?_ ?_
    rotate_left
    ·rintro w' ⟨s0, s1, s2, s3, s4, s5, s6, s7⟩
     go_simp
     with_reducible rfl
    rotate_left
    ·simp only [Act.put, List.setIfInBounds_toArray, List.set_cons_zero, List.set_cons_succ, i64_w, i32_w]
     rfl
    refine take_ (i := 2) (N := some 22) (v := ?_) (a' := ?_) #[true, false, true, false, false, false] rfl rfl (by kernel_rfl) (fun _ _ _ h => h) (Or.inl ⟨by rfl, ?_⟩) hHeld ?_ ?_
    rotate_left
    ·rintro w' ⟨s0, s1, s2, s3, s4, s5, s6, s7⟩
     go_simp
     with_reducible rfl
    rotate_left
    ·simp only [Act.put, List.setIfInBounds_toArray, List.set_cons_zero, List.set_cons_succ, i64_w, i32_w]
     rfl
    refine one_ (i := 1) (N := some 21) #[true, true, true, false, false, false] rfl rfl (by kernel_rfl) (by decide) (fun K hK => ?_)
    refine goes_ Try.func24 (by kernel_rfl) rfl #[.agg #[.string a0_0, .string a0_1, .string a0_2, .slice A0_3 l0_3.length c0_3]] (by rfl) rfl rfl (by (try simp only [List.map_toArray, List.map_cons, List.map_nil]); first | done | rfl | (simp only [List.length_drop, List.length_take]; rfl)) ?_
    with_reducible refine (laws_toNode.calls k a0_0 a0_1 a0_2 _ _ l0_3 t142 t143 t144 t145 _ ?side1 ?side2 A19.out).mono ?_
    (case side1 => repeat (first | exact (Kd.C_below HR0_3.out HB.out) | (with_reducible refine Kd.C_alloc ?_ _) | (with_reducible refine Kd.C_drewN ?_ _) | (with_reducible refine Kd.C_drew ?_)))
    (case side2 => exact HC0_3.out)
    rintro e w34 ⟨v146, rfl, ho0, hb⟩
    refine ⟨_, rfl, ?_⟩
    have n0_ := Aside0.mk (Kd.R_lower ho0 (below_size (by repeat (first | (with_reducible first | exact HB.out | apply aB_ | apply pN_ | apply dB_ | refine sB_ ?_ GE138.out | refine sB_ ?_ GE139.out) | exact HB.out))))
    have n1_ := Aside0.mk (bB_ (g := gb138) (o := .cells #[.string a0_0, .string a0_1, .string a0_2, .slice A0_3 l0_3.length c0_3] 35 (0, 0)) (by (with_reducible repeat (first | refine bN_ ?_ _ | refine bD_ ?_ | refine bA_ ?_ _)); exact BK138.out) hb)
    have n2_ := Aside0.mk (bB_ (g := gb139) (o := .cells #[.string a1_0, .string a1_1, .string a1_2, .slice A1_3 l1_3.length c1_3] 35 (0, 0)) (by (with_reducible repeat (first | refine bN_ ?_ _ | refine bD_ ?_ | refine bA_ ?_ _)); exact BK139.out) hb)
    have n3_ := Aside0.mk (below_step (by repeat (first | (with_reducible first | exact HB.out | apply aB_ | apply pN_ | apply dB_ | refine sB_ ?_ GE138.out | refine sB_ ?_ GE139.out) | exact HB.out)) hb)
    clear BK138
    clear BK139
    clear HB
    have HO147 := n0_
    have BK138 := n1_
    have BK139 := n2_
    have HB := n3_
    clear n0_ n1_ n2_ n3_
    (try clear hb)
    (try clear hb2)
    (try clear hk)
    (try clear hi)
    (try clear ho0)
    refine hK.out _ _ ⟨(bc_ BK138.out 0).trans rfl, (bc_ BK138.out 1).trans rfl, (bc_ BK138.out 2).trans rfl, (bc_ BK138.out 3).trans rfl, (bc_ BK139.out 0).trans rfl, (bc_ BK139.out 1).trans rfl, (bc_ BK139.out 2).trans rfl, (bc_ BK139.out 3).trans rfl⟩ (fun hHeld => ?_)
    clear hK K
    refine norm_ (a' := ?_) ?_ ?_
    rotate_left
    ·show Act.put _ (some 21) _ = _
     simp only [Act.put, List.setIfInBounds_toArray, List.set_cons_zero, List.set_cons_succ, i64_w, i32_w]
     rfl
    refine one_ (i := 3) (N := some 23) #[true, true, true, true, false, false] rfl rfl (by kernel_rfl) (by decide) (fun K hK => ?_)
    refine goes_ Try.func24 (by kernel_rfl) rfl #[.agg #[.string a1_0, .string a1_1, .string a1_2, .slice A1_3 l1_3.length c1_3]] (by rfl) rfl rfl (by (try simp only [List.map_toArray, List.map_cons, List.map_nil]); first | done | rfl | (simp only [List.length_drop, List.length_take]; rfl)) ?_
    with_reducible refine (laws_toNode.calls k a1_0 a1_1 a1_2 _ _ l1_3 t148 t149 t150 t151 _ ?side1 ?side2 A20.out).mono ?_
    (case side1 => repeat (first | exact (Kd.C_below HR1_3.out HB.out) | (with_reducible refine Kd.C_alloc ?_ _) | (with_reducible refine Kd.C_drewN ?_ _) | (with_reducible refine Kd.C_drew ?_)))
    (case side2 => exact HC1_3.out)
    rintro e w35 ⟨v152, rfl, ho0, hb⟩
    refine ⟨_, rfl, ?_⟩
    have n0_ := Aside0.mk (Kd.R_elder' (by (with_reducible repeat (first | apply rA_ | apply rN_ | apply rD_)); exact HO147.out) (Kd.R_base ho0) hb)
    have n1_ := Aside0.mk (Kd.R_lower (Kd.R_new' ho0 (Kd.R_lt (by (with_reducible repeat (first | apply rA_ | apply rN_ | apply rD_)); exact HO147.out))) (below_size (by repeat (first | (with_reducible first | exact HB.out | apply aB_ | apply pN_ | apply dB_ | refine sB_ ?_ GE138.out | refine sB_ ?_ GE139.out) | exact HB.out))))
    have n2_ := Aside0.mk (bB_ (g := gb138) (o := .cells #[.string a0_0, .string a0_1, .string a0_2, .slice A0_3 l0_3.length c0_3] 35 (0, 0)) (by (with_reducible repeat (first | refine bN_ ?_ _ | refine bD_ ?_ | refine bA_ ?_ _)); exact BK138.out) hb)
    have n3_ := Aside0.mk (bB_ (g := gb139) (o := .cells #[.string a1_0, .string a1_1, .string a1_2, .slice A1_3 l1_3.length c1_3] 35 (0, 0)) (by (with_reducible repeat (first | refine bN_ ?_ _ | refine bD_ ?_ | refine bA_ ?_ _)); exact BK139.out) hb)
    have n4_ := Aside0.mk (below_step (by repeat (first | (with_reducible first | exact HB.out | apply aB_ | apply pN_ | apply dB_ | refine sB_ ?_ GE138.out | refine sB_ ?_ GE139.out) | exact HB.out)) hb)
    clear HO147
    clear BK138
    clear BK139
    clear HB
    have HO147 := n0_
    have HO153 := n1_
    have BK138 := n2_
    have BK139 := n3_
    have HB := n4_
    clear n0_ n1_ n2_ n3_ n4_
    (try clear hb)
    (try clear hb2)
    (try clear hk)
    (try clear hi)
    (try clear ho0)
    obtain ⟨Ao36, co36, eo36⟩ := Kd.R_slice HO147.out
    (first | subst eo36 | (injection eo36 with f1_ f2_ f3_; have f4_ := f1_.symm; have f5_ := f3_.symm; clear f1_ f2_ f3_; subst f4_; subst f5_))
    obtain ⟨Ao37, co37, eo37⟩ := Kd.R_slice HO153.out
    (first | subst eo37 | (injection eo37 with f1_ f2_ f3_; have f4_ := f1_.symm; have f5_ := f3_.symm; clear f1_ f2_ f3_; subst f4_; subst f5_))
    refine hK.out _ _ ⟨(bc_ BK138.out 0).trans rfl, (bc_ BK138.out 1).trans rfl, (bc_ BK138.out 2).trans rfl, (bc_ BK138.out 3).trans rfl, (bc_ BK139.out 0).trans rfl, (bc_ BK139.out 1).trans rfl, (bc_ BK139.out 2).trans rfl, (bc_ BK139.out 3).trans rfl⟩ (fun hHeld => ?_)
    clear hK K
    refine norm_ (a' := ?_) ?_ ?_
    rotate_left
    ·show Act.put _ (some 23) _ = _
     simp only [Act.put, List.setIfInBounds_toArray, List.set_cons_zero, List.set_cons_succ, i64_w, i32_w]
     rfl
    refine one_ (i := 4) (N := some 24) #[true, true, true, true, true, false] rfl rfl (by kernel_rfl) (by decide) (fun K hK => ?_)
    refine goes_ Try.func23 (by kernel_rfl) rfl #[.agg #[.string t142, .string t143, .string t144, .slice Ao36 t145.length co36], .agg #[.string t148, .string t149, .string t150, .slice Ao37 t151.length co37]] (by rfl) rfl rfl (by (try simp only [List.map_toArray, List.map_cons, List.map_nil]); first | done | rfl | (simp only [List.length_drop, List.length_take]; rfl)) ?_
    with_reducible refine (spec_SameNode.calls k t142 t143 t144 _ _ t145 t148 t149 t150 _ _ t151 t154 _ ?side1 ?side2 ?side3 ?side4 A21.out).mono ?_
    (case side1 => repeat (first | exact (Kd.R_reads' HO147.out).2.2 | (with_reducible refine Kd.C_alloc ?_ _) | (with_reducible refine Kd.C_drewN ?_ _) | (with_reducible refine Kd.C_drew ?_)))
    (case side2 => exact (Kd.R_reads' HO147.out).2.1)
    (case side3 => repeat (first | exact (Kd.R_reads' HO153.out).2.2 | (with_reducible refine Kd.C_alloc ?_ _) | (with_reducible refine Kd.C_drewN ?_ _) | (with_reducible refine Kd.C_drew ?_)))
    (case side4 => exact (Kd.R_reads' HO153.out).2.1)
    rintro e w38 ⟨rfl, hb⟩
    refine ⟨_, rfl, ?_⟩
    have n0_ := Aside0.mk (Kd.R_below (by (with_reducible repeat (first | apply rA_ | apply rN_ | apply rD_)); exact HO147.out) hb)
    have n1_ := Aside0.mk (Kd.R_below (by (with_reducible repeat (first | apply rA_ | apply rN_ | apply rD_)); exact HO153.out) hb)
    have n2_ := Aside0.mk (bB_ (g := gb138) (o := .cells #[.string a0_0, .string a0_1, .string a0_2, .slice A0_3 l0_3.length c0_3] 35 (0, 0)) (by (with_reducible repeat (first | refine bN_ ?_ _ | refine bD_ ?_ | refine bA_ ?_ _)); exact BK138.out) hb)
    have n3_ := Aside0.mk (bB_ (g := gb139) (o := .cells #[.string a1_0, .string a1_1, .string a1_2, .slice A1_3 l1_3.length c1_3] 35 (0, 0)) (by (with_reducible repeat (first | refine bN_ ?_ _ | refine bD_ ?_ | refine bA_ ?_ _)); exact BK139.out) hb)
    have n4_ := Aside0.mk (below_step (by repeat (first | (with_reducible first | exact HB.out | apply aB_ | apply pN_ | apply dB_ | refine sB_ ?_ GE138.out | refine sB_ ?_ GE139.out) | exact HB.out)) hb)
    clear HO147
    clear HO153
    clear BK138
    clear BK139
    clear HB
    have HO147 := n0_
    have HO153 := n1_
    have BK138 := n2_
    have BK139 := n3_
    have HB := n4_
    clear n0_ n1_ n2_ n3_ n4_
    (try clear hb)
    (try clear hb2)
    (try clear hk)
    (try clear hi)
    refine hK.out _ _ ⟨(bc_ BK138.out 0).trans rfl, (bc_ BK138.out 1).trans rfl, (bc_ BK138.out 2).trans rfl, (bc_ BK138.out 3).trans rfl, (bc_ BK139.out 0).trans rfl, (bc_ BK139.out 1).trans rfl, (bc_ BK139.out 2).trans rfl, (bc_ BK139.out 3).trans rfl⟩ (fun hHeld => ?_)
    clear hK K
    refine norm_ (a' := ?_) ?_ ?_
    rotate_left
    ·show Act.put _ (some 24) _ = _
     simp only [Act.put, List.setIfInBounds_toArray, List.set_cons_zero, List.set_cons_succ, i64_w, i32_w]
     rfl
    refine pure_ (i := 5) (N := some 6) (v := ?_) (a' := ?_) #[true, true, true, true, true, true] rfl rfl (by kernel_rfl) (fun _ _ _ h => h) (Or.inl ⟨by rfl, ?_⟩) ?_ ?_
    rotate_left
    ·intro w'
     go_simp
     with_reducible rfl
    rotate_left
    ·simp only [Act.put, List.setIfInBounds_toArray, List.set_cons_zero, List.set_cons_succ, i64_w, i32_w]
     rfl
    refine done_ (by kernel_rfl) ?_
    have hcz39_0 : w38.cell? ⟨gb138, 0, none⟩ = some (.string a0_0) := (bc_ BK138.out 0).trans rfl
    have hcz39_1 : w38.cell? ⟨gb138, 1, none⟩ = some (.string a0_1) := (bc_ BK138.out 1).trans rfl
    have hcz39_2 : w38.cell? ⟨gb138, 2, none⟩ = some (.string a0_2) := (bc_ BK138.out 2).trans rfl
    have hcz39_3 : w38.cell? ⟨gb138, 3, none⟩ = some (.slice A0_3 l0_3.length c0_3) := (bc_ BK138.out 3).trans rfl
    have hfz39_0 := bF_ BK138.out 0
    have hfz39_1 := bF_ BK138.out 1
    have hfz39_2 := bF_ BK138.out 2
    have hfz39_3 := bF_ BK138.out 3
    try go_wp2_with (first | ((with_reducible refine gate_callee (f := 24) rfl ?_); refine goesL_ (some 26) rfl rfl Try.func24 (by kernel_rfl) rfl #[.agg #[.string a0_0, .string a0_1, .string a0_2, .slice A0_3 l0_3.length c0_3]] rfl (by (try simp only [List.map_toArray, List.map_cons, List.map_nil]); first | done | rfl | (simp only [List.length_drop, List.length_take]; rfl)) ?_; (with_reducible refine (laws_toNode.calls k a0_0 a0_1 a0_2 _ _ l0_3 t155 t156 t157 t158 _ ?side1 ?side2 A22.out).mono ?_); (case side1 => repeat (first | exact (Kd.C_below HR0_3.out HB.out) | (with_reducible refine Kd.C_alloc ?_ _) | (with_reducible refine Kd.C_drewN ?_ _) | (with_reducible refine Kd.C_drew ?_))); (case side2 => exact HC0_3.out); rintro e w40 ⟨v159, rfl, ho0, hb⟩; refine ⟨_, rfl, ?_⟩; have n0_ := Aside0.mk (Kd.R_elder' (by (with_reducible repeat (first | apply rA_ | apply rN_ | apply rD_)); exact HO147.out) (Kd.R_base ho0) hb); have n1_ := Aside0.mk (Kd.R_elder' (by (with_reducible repeat (first | apply rA_ | apply rN_ | apply rD_)); exact HO153.out) (Kd.R_base ho0) hb); have n2_ := Aside0.mk (Kd.R_lower (Kd.R_new' (Kd.R_new' ho0 (Kd.R_lt (by (with_reducible repeat (first | apply rA_ | apply rN_ | apply rD_)); exact HO147.out))) (Kd.R_lt (by (with_reducible repeat (first | apply rA_ | apply rN_ | apply rD_)); exact HO153.out))) (below_size (by repeat (first | (with_reducible first | exact HB.out | apply aB_ | apply pN_ | apply dB_ | refine sB_ ?_ GE138.out | refine sB_ ?_ GE139.out) | exact HB.out)))); have n3_ := Aside0.mk (bB_ (g := gb138) (o := .cells #[.string a0_0, .string a0_1, .string a0_2, .slice A0_3 l0_3.length c0_3] 35 (0, 0)) (by (with_reducible repeat (first | refine bN_ ?_ _ | refine bD_ ?_ | refine bA_ ?_ _)); exact BK138.out) hb); have n4_ := Aside0.mk (bB_ (g := gb139) (o := .cells #[.string a1_0, .string a1_1, .string a1_2, .slice A1_3 l1_3.length c1_3] 35 (0, 0)) (by (with_reducible repeat (first | refine bN_ ?_ _ | refine bD_ ?_ | refine bA_ ?_ _)); exact BK139.out) hb); have n5_ := Aside0.mk (below_step (by repeat (first | (with_reducible first | exact HB.out | apply aB_ | apply pN_ | apply dB_ | refine sB_ ?_ GE138.out | refine sB_ ?_ GE139.out) | exact HB.out)) hb); clear HO147; clear HO153; clear BK138; clear BK139; clear HB; have HO147 := n0_; have HO153 := n1_; have HO160 := n2_; have BK138 := n3_; have BK139 := n4_; have HB := n5_; clear n0_ n1_ n2_ n3_ n4_ n5_; (try clear hb); (try clear hb2); (try clear hk); (try clear hi); (try clear ho0)) | ((with_reducible refine gate_dst (N := 7) rfl ?_); refine box_event ?hg (N := 7) ?hd (cs := #[.string (⟨#[]⟩ : ByteArray), .string (⟨#[]⟩ : ByteArray), .string (⟨#[]⟩ : ByteArray), .slice none 0 0]) (t := 40) ?hr ?_; (case hd => rfl); (case hg => rfl); (case hr => first | (go_simp; done) | (go_simp; rfl)); intro gb161 hg w41 hbox hb; have n0_ := Aside0.mk (Kd.R_below (Kd.R_elderB (by (with_reducible repeat (first | apply rA_ | apply rN_ | apply rD_)); exact HO147.out) gb161 (Nat.le_of_eq hg.symm)) hb); have n1_ := Aside0.mk (Kd.R_below (Kd.R_elderB (by (with_reducible repeat (first | apply rA_ | apply rN_ | apply rD_)); exact HO153.out) gb161 (Nat.le_of_eq hg.symm)) hb); have n2_ := Aside0.mk (Kd.R_below (Kd.R_elderB (by (with_reducible repeat (first | apply rA_ | apply rN_ | apply rD_)); exact HO160.out) gb161 (Nat.le_of_eq hg.symm)) hb); have n3_ := Aside0.mk (bB_ (g := gb138) (o := .cells #[.string a0_0, .string a0_1, .string a0_2, .slice A0_3 l0_3.length c0_3] 35 (0, 0)) (by (with_reducible repeat (first | refine bN_ ?_ _ | refine bD_ ?_ | refine bA_ ?_ _)); exact BK138.out) hb); have n4_ := Aside0.mk (bB_ (g := gb139) (o := .cells #[.string a1_0, .string a1_1, .string a1_2, .slice A1_3 l1_3.length c1_3] 35 (0, 0)) (by (with_reducible repeat (first | refine bN_ ?_ _ | refine bD_ ?_ | refine bA_ ?_ _)); exact BK139.out) hb); have n5_ := Aside0.mk (below_step (by repeat (first | (with_reducible first | exact HB.out | apply aB_ | apply pN_ | apply dB_ | refine sB_ ?_ GE138.out | refine sB_ ?_ GE139.out) | exact HB.out)) hb); have n6_ := Aside0.mk (hbox); have n7_ := Aside0.mk ((by rw [hg]; exact (below_size (by repeat (first | (with_reducible first | exact HB.out | apply aB_ | apply pN_ | apply dB_ | refine sB_ ?_ GE138.out | refine sB_ ?_ GE139.out) | exact HB.out))) : w.heap.size ≤ gb161)); have n8_ := Aside0.mk ((by rw [hg]; exact (below_size (by repeat (first | (with_reducible first | exact HB.out | apply aB_ | apply pN_ | apply dB_ | refine sB_ ?_ GE138.out | refine sB_ ?_ GE139.out) | exact HB.out))) : w.heap.size ≤ gb161)); have n9_ := Aside0.mk ((by rw [hg]; exact Nat.ne_of_lt (blk_lt (g := gb138) (o := .cells #[.string a0_0, .string a0_1, .string a0_2, .slice A0_3 l0_3.length c0_3] 35 (0, 0)) (by (with_reducible repeat (first | refine bN_ ?_ _ | refine bD_ ?_ | refine bA_ ?_ _)); exact BK138.out)) : gb138 ≠ gb161)); have n10_ := Aside0.mk ((by rw [hg]; exact Nat.ne_of_gt (blk_lt (g := gb138) (o := .cells #[.string a0_0, .string a0_1, .string a0_2, .slice A0_3 l0_3.length c0_3] 35 (0, 0)) (by (with_reducible repeat (first | refine bN_ ?_ _ | refine bD_ ?_ | refine bA_ ?_ _)); exact BK138.out)) : gb161 ≠ gb138)); have n11_ := Aside0.mk ((by rw [hg]; exact Nat.ne_of_lt (blk_lt (g := gb139) (o := .cells #[.string a1_0, .string a1_1, .string a1_2, .slice A1_3 l1_3.length c1_3] 35 (0, 0)) (by (with_reducible repeat (first | refine bN_ ?_ _ | refine bD_ ?_ | refine bA_ ?_ _)); exact BK139.out)) : gb139 ≠ gb161)); have n12_ := Aside0.mk ((by rw [hg]; exact Nat.ne_of_gt (blk_lt (g := gb139) (o := .cells #[.string a1_0, .string a1_1, .string a1_2, .slice A1_3 l1_3.length c1_3] 35 (0, 0)) (by (with_reducible repeat (first | refine bN_ ?_ _ | refine bD_ ?_ | refine bA_ ?_ _)); exact BK139.out)) : gb161 ≠ gb139)); clear HO147; clear HO153; clear HO160; clear BK138; clear BK139; clear HB; have HO147 := n0_; have HO153 := n1_; have HO160 := n2_; have BK138 := n3_; have BK139 := n4_; have HB := n5_; have BK161 := n6_; have GW161 := n7_; have GE161 := n8_; have NB138_161 := n9_; have NB161_138 := n10_; have NB139_161 := n11_; have NB161_139 := n12_; clear n0_ n1_ n2_ n3_ n4_ n5_ n6_ n7_ n8_ n9_ n10_ n11_ n12_; clear hb hbox hg; have hnb42 := NB161_138.out; have hnc42 := NB138_161.out; have hnb43 := NB161_139.out; have hnc43 := NB139_161.out; have hcz44_0 : w41.cell? ⟨gb161, 0, none⟩ = some (.string (⟨#[]⟩ : ByteArray)) := (bc_ BK161.out 0).trans rfl; have hcz44_1 : w41.cell? ⟨gb161, 1, none⟩ = some (.string (⟨#[]⟩ : ByteArray)) := (bc_ BK161.out 1).trans rfl; have hcz44_2 : w41.cell? ⟨gb161, 2, none⟩ = some (.string (⟨#[]⟩ : ByteArray)) := (bc_ BK161.out 2).trans rfl; have hcz44_3 : w41.cell? ⟨gb161, 3, none⟩ = some (.slice none 0 0) := (bc_ BK161.out 3).trans rfl; have hfz44_0 := bF_ BK161.out 0; have hfz44_1 := bF_ BK161.out 1; have hfz44_2 := bF_ BK161.out 2; have hfz44_3 := bF_ BK161.out 3; obtain ⟨Ao45, co45, eo45⟩ := Kd.R_slice HO160.out; subst eo45; have hcz46_0 : w41.cell? ⟨gb139, 0, none⟩ = some (.string a1_0) := (bc_ BK139.out 0).trans rfl; have hcz46_1 : w41.cell? ⟨gb139, 1, none⟩ = some (.string a1_1) := (bc_ BK139.out 1).trans rfl; have hcz46_2 : w41.cell? ⟨gb139, 2, none⟩ = some (.string a1_2) := (bc_ BK139.out 2).trans rfl; have hcz46_3 : w41.cell? ⟨gb139, 3, none⟩ = some (.slice A1_3 l1_3.length c1_3) := (bc_ BK139.out 3).trans rfl; have hfz46_0 := bF_ BK139.out 0; have hfz46_1 := bF_ BK139.out 1; have hfz46_2 := bF_ BK139.out 2; have hfz46_3 := bF_ BK139.out 3) | ((with_reducible refine gate_callee (f := 24) rfl ?_); refine goesL_ (some 28) rfl rfl Try.func24 (by kernel_rfl) rfl #[.agg #[.string a1_0, .string a1_1, .string a1_2, .slice A1_3 l1_3.length c1_3]] rfl (by (try simp only [List.map_toArray, List.map_cons, List.map_nil]); first | done | rfl | (simp only [List.length_drop, List.length_take]; rfl)) ?_; (with_reducible refine (laws_toNode.calls k a1_0 a1_1 a1_2 _ _ l1_3 t162 t163 t164 t165 _ ?side1 ?side2 A23.out).mono ?_); (case side1 => exact Kd.C_below HR1_3.out (by repeat (first | (with_reducible first | exact HB.out | apply aB_ | apply pN_ | apply dB_ | refine sB_ ?_ GE138.out | refine sB_ ?_ GE139.out | refine sB_ ?_ GE161.out) | exact HB.out))); (case side2 => exact HC1_3.out); rintro e w47 ⟨v166, rfl, ho0, hb⟩; refine ⟨_, rfl, ?_⟩; have n0_ := Aside0.mk (Kd.R_elder' (by (with_reducible repeat (first | apply rA_ | apply rN_ | apply rD_)); exact (Kd.R_mono (rF_ (p := ⟨gb161, 3, none⟩) (rF_ (p := ⟨gb161, 2, none⟩) (rF_ (p := ⟨gb161, 1, none⟩) (rF_ (p := ⟨gb161, 0, none⟩) (Kd.R_mono HO147.out (fun k_ hk => (⟨hk, hk.2⟩ : _ ∧ k_ ≠ gb161))) (fun _ hk => hk.2) (.string t155)) (fun _ hk => hk.2) (.string t156)) (fun _ hk => hk.2) (.string t157)) (fun _ hk => hk.2) (.slice Ao45 t158.length co45)) (fun _ h_ => h_.1))) (Kd.R_base ho0) hb); have n1_ := Aside0.mk (Kd.R_elder' (by (with_reducible repeat (first | apply rA_ | apply rN_ | apply rD_)); exact (Kd.R_mono (rF_ (p := ⟨gb161, 3, none⟩) (rF_ (p := ⟨gb161, 2, none⟩) (rF_ (p := ⟨gb161, 1, none⟩) (rF_ (p := ⟨gb161, 0, none⟩) (Kd.R_mono HO153.out (fun k_ hk => (⟨hk, hk.2⟩ : _ ∧ k_ ≠ gb161))) (fun _ hk => hk.2) (.string t155)) (fun _ hk => hk.2) (.string t156)) (fun _ hk => hk.2) (.string t157)) (fun _ hk => hk.2) (.slice Ao45 t158.length co45)) (fun _ h_ => h_.1))) (Kd.R_base ho0) hb); have n2_ := Aside0.mk (Kd.R_elder' (by (with_reducible repeat (first | apply rA_ | apply rN_ | apply rD_)); exact (Kd.R_mono (rF_ (p := ⟨gb161, 3, none⟩) (rF_ (p := ⟨gb161, 2, none⟩) (rF_ (p := ⟨gb161, 1, none⟩) (rF_ (p := ⟨gb161, 0, none⟩) (Kd.R_mono HO160.out (fun k_ hk => (⟨hk, hk.2⟩ : _ ∧ k_ ≠ gb161))) (fun _ hk => hk.2) (.string t155)) (fun _ hk => hk.2) (.string t156)) (fun _ hk => hk.2) (.string t157)) (fun _ hk => hk.2) (.slice Ao45 t158.length co45)) (fun _ h_ => h_.1))) (Kd.R_base ho0) hb); have n3_ := Aside0.mk (Kd.R_lower (Kd.R_newB (Kd.R_new' (Kd.R_new' (Kd.R_new' ho0 (Kd.R_lt (by (with_reducible repeat (first | apply rA_ | apply rN_ | apply rD_)); exact (Kd.R_mono (rF_ (p := ⟨gb161, 3, none⟩) (rF_ (p := ⟨gb161, 2, none⟩) (rF_ (p := ⟨gb161, 1, none⟩) (rF_ (p := ⟨gb161, 0, none⟩) (Kd.R_mono HO147.out (fun k_ hk => (⟨hk, hk.2⟩ : _ ∧ k_ ≠ gb161))) (fun _ hk => hk.2) (.string t155)) (fun _ hk => hk.2) (.string t156)) (fun _ hk => hk.2) (.string t157)) (fun _ hk => hk.2) (.slice Ao45 t158.length co45)) (fun _ h_ => h_.1))))) (Kd.R_lt (by (with_reducible repeat (first | apply rA_ | apply rN_ | apply rD_)); exact (Kd.R_mono (rF_ (p := ⟨gb161, 3, none⟩) (rF_ (p := ⟨gb161, 2, none⟩) (rF_ (p := ⟨gb161, 1, none⟩) (rF_ (p := ⟨gb161, 0, none⟩) (Kd.R_mono HO153.out (fun k_ hk => (⟨hk, hk.2⟩ : _ ∧ k_ ≠ gb161))) (fun _ hk => hk.2) (.string t155)) (fun _ hk => hk.2) (.string t156)) (fun _ hk => hk.2) (.string t157)) (fun _ hk => hk.2) (.slice Ao45 t158.length co45)) (fun _ h_ => h_.1))))) (Kd.R_lt (by (with_reducible repeat (first | apply rA_ | apply rN_ | apply rD_)); exact (Kd.R_mono (rF_ (p := ⟨gb161, 3, none⟩) (rF_ (p := ⟨gb161, 2, none⟩) (rF_ (p := ⟨gb161, 1, none⟩) (rF_ (p := ⟨gb161, 0, none⟩) (Kd.R_mono HO160.out (fun k_ hk => (⟨hk, hk.2⟩ : _ ∧ k_ ≠ gb161))) (fun _ hk => hk.2) (.string t155)) (fun _ hk => hk.2) (.string t156)) (fun _ hk => hk.2) (.string t157)) (fun _ hk => hk.2) (.slice Ao45 t158.length co45)) (fun _ h_ => h_.1))))) (g := gb161) (o := .cells #[.string t155, .string t156, .string t157, .slice Ao45 t158.length co45] 40 (0, 0)) (by (with_reducible repeat (first | refine bN_ ?_ _ | refine bD_ ?_ | refine bA_ ?_ _)); refine blk_put (cs := #[.string t155, .string t156, .string t157, .slice none 0 0]) ?_ 3 _ rfl; (with_reducible repeat (first | refine bN_ ?_ _ | refine bD_ ?_ | refine bA_ ?_ _)); refine blk_put (cs := #[.string t155, .string t156, .string (⟨#[]⟩ : ByteArray), .slice none 0 0]) ?_ 2 _ rfl; (with_reducible repeat (first | refine bN_ ?_ _ | refine bD_ ?_ | refine bA_ ?_ _)); refine blk_put (cs := #[.string t155, .string (⟨#[]⟩ : ByteArray), .string (⟨#[]⟩ : ByteArray), .slice none 0 0]) ?_ 1 _ rfl; (with_reducible repeat (first | refine bN_ ?_ _ | refine bD_ ?_ | refine bA_ ?_ _)); refine blk_put (cs := #[.string (⟨#[]⟩ : ByteArray), .string (⟨#[]⟩ : ByteArray), .string (⟨#[]⟩ : ByteArray), .slice none 0 0]) ?_ 0 _ rfl; (with_reducible repeat (first | refine bN_ ?_ _ | refine bD_ ?_ | refine bA_ ?_ _)); exact BK161.out)) (below_size (by repeat (first | (with_reducible first | exact HB.out | apply aB_ | apply pN_ | apply dB_ | refine sB_ ?_ GE138.out | refine sB_ ?_ GE139.out | refine sB_ ?_ GE161.out) | exact HB.out)))); have n4_ := Aside0.mk (bB_ (g := gb138) (o := .cells #[.string a0_0, .string a0_1, .string a0_2, .slice A0_3 l0_3.length c0_3] 35 (0, 0)) (by (with_reducible repeat (first | refine bN_ ?_ _ | refine bD_ ?_ | refine bA_ ?_ _)); refine blk_far ?_ NB138_161.out _; (with_reducible repeat (first | refine bN_ ?_ _ | refine bD_ ?_ | refine bA_ ?_ _)); refine blk_far ?_ NB138_161.out _; (with_reducible repeat (first | refine bN_ ?_ _ | refine bD_ ?_ | refine bA_ ?_ _)); refine blk_far ?_ NB138_161.out _; (with_reducible repeat (first | refine bN_ ?_ _ | refine bD_ ?_ | refine bA_ ?_ _)); refine blk_far ?_ NB138_161.out _; (with_reducible repeat (first | refine bN_ ?_ _ | refine bD_ ?_ | refine bA_ ?_ _)); exact BK138.out) hb); have n5_ := Aside0.mk (bB_ (g := gb139) (o := .cells #[.string a1_0, .string a1_1, .string a1_2, .slice A1_3 l1_3.length c1_3] 35 (0, 0)) (by (with_reducible repeat (first | refine bN_ ?_ _ | refine bD_ ?_ | refine bA_ ?_ _)); refine blk_far ?_ NB139_161.out _; (with_reducible repeat (first | refine bN_ ?_ _ | refine bD_ ?_ | refine bA_ ?_ _)); refine blk_far ?_ NB139_161.out _; (with_reducible repeat (first | refine bN_ ?_ _ | refine bD_ ?_ | refine bA_ ?_ _)); refine blk_far ?_ NB139_161.out _; (with_reducible repeat (first | refine bN_ ?_ _ | refine bD_ ?_ | refine bA_ ?_ _)); refine blk_far ?_ NB139_161.out _; (with_reducible repeat (first | refine bN_ ?_ _ | refine bD_ ?_ | refine bA_ ?_ _)); exact BK139.out) hb); have n6_ := Aside0.mk (bB_ (g := gb161) (o := .cells #[.string t155, .string t156, .string t157, .slice Ao45 t158.length co45] 40 (0, 0)) (by (with_reducible repeat (first | refine bN_ ?_ _ | refine bD_ ?_ | refine bA_ ?_ _)); refine blk_put (cs := #[.string t155, .string t156, .string t157, .slice none 0 0]) ?_ 3 _ rfl; (with_reducible repeat (first | refine bN_ ?_ _ | refine bD_ ?_ | refine bA_ ?_ _)); refine blk_put (cs := #[.string t155, .string t156, .string (⟨#[]⟩ : ByteArray), .slice none 0 0]) ?_ 2 _ rfl; (with_reducible repeat (first | refine bN_ ?_ _ | refine bD_ ?_ | refine bA_ ?_ _)); refine blk_put (cs := #[.string t155, .string (⟨#[]⟩ : ByteArray), .string (⟨#[]⟩ : ByteArray), .slice none 0 0]) ?_ 1 _ rfl; (with_reducible repeat (first | refine bN_ ?_ _ | refine bD_ ?_ | refine bA_ ?_ _)); refine blk_put (cs := #[.string (⟨#[]⟩ : ByteArray), .string (⟨#[]⟩ : ByteArray), .string (⟨#[]⟩ : ByteArray), .slice none 0 0]) ?_ 0 _ rfl; (with_reducible repeat (first | refine bN_ ?_ _ | refine bD_ ?_ | refine bA_ ?_ _)); exact BK161.out) hb); have n7_ := Aside0.mk (below_step (by repeat (first | (with_reducible first | exact HB.out | apply aB_ | apply pN_ | apply dB_ | refine sB_ ?_ GE138.out | refine sB_ ?_ GE139.out | refine sB_ ?_ GE161.out) | exact HB.out)) hb); clear HO147; clear HO153; clear HO160; clear BK138; clear BK139; clear BK161; clear HB; have HO147 := n0_; have HO153 := n1_; have HO160 := n2_; have HO167 := n3_; have BK138 := n4_; have BK139 := n5_; have BK161 := n6_; have HB := n7_; clear n0_ n1_ n2_ n3_ n4_ n5_ n6_ n7_; (try clear hb); (try clear hb2); (try clear hk); (try clear hi); (try clear ho0)) | ((with_reducible refine gate_dst (N := 8) rfl ?_); refine box_event ?hg (N := 8) ?hd (cs := #[.string (⟨#[]⟩ : ByteArray), .string (⟨#[]⟩ : ByteArray), .string (⟨#[]⟩ : ByteArray), .slice none 0 0]) (t := 40) ?hr ?_; (case hd => rfl); (case hg => rfl); (case hr => first | (go_simp; done) | (go_simp; rfl)); intro gb168 hg w48 hbox hb; have n0_ := Aside0.mk (Kd.R_below (Kd.R_elderB (by (with_reducible repeat (first | apply rA_ | apply rN_ | apply rD_)); exact HO147.out) gb168 (Nat.le_of_eq hg.symm)) hb); have n1_ := Aside0.mk (Kd.R_below (Kd.R_elderB (by (with_reducible repeat (first | apply rA_ | apply rN_ | apply rD_)); exact HO153.out) gb168 (Nat.le_of_eq hg.symm)) hb); have n2_ := Aside0.mk (Kd.R_below (Kd.R_elderB (by (with_reducible repeat (first | apply rA_ | apply rN_ | apply rD_)); exact HO160.out) gb168 (Nat.le_of_eq hg.symm)) hb); have n3_ := Aside0.mk (Kd.R_below (Kd.R_elderB (by (with_reducible repeat (first | apply rA_ | apply rN_ | apply rD_)); exact HO167.out) gb168 (Nat.le_of_eq hg.symm)) hb); have n4_ := Aside0.mk (bB_ (g := gb138) (o := .cells #[.string a0_0, .string a0_1, .string a0_2, .slice A0_3 l0_3.length c0_3] 35 (0, 0)) (by (with_reducible repeat (first | refine bN_ ?_ _ | refine bD_ ?_ | refine bA_ ?_ _)); exact BK138.out) hb); have n5_ := Aside0.mk (bB_ (g := gb139) (o := .cells #[.string a1_0, .string a1_1, .string a1_2, .slice A1_3 l1_3.length c1_3] 35 (0, 0)) (by (with_reducible repeat (first | refine bN_ ?_ _ | refine bD_ ?_ | refine bA_ ?_ _)); exact BK139.out) hb); have n6_ := Aside0.mk (bB_ (g := gb161) (o := .cells #[.string t155, .string t156, .string t157, .slice Ao45 t158.length co45] 40 (0, 0)) (by (with_reducible repeat (first | refine bN_ ?_ _ | refine bD_ ?_ | refine bA_ ?_ _)); exact BK161.out) hb); have n7_ := Aside0.mk (below_step (by repeat (first | (with_reducible first | exact HB.out | apply aB_ | apply pN_ | apply dB_ | refine sB_ ?_ GE138.out | refine sB_ ?_ GE139.out | refine sB_ ?_ GE161.out) | exact HB.out)) hb); have n8_ := Aside0.mk (hbox); have n9_ := Aside0.mk ((by rw [hg]; exact (below_size (by repeat (first | (with_reducible first | exact HB.out | apply aB_ | apply pN_ | apply dB_ | refine sB_ ?_ GE138.out | refine sB_ ?_ GE139.out | refine sB_ ?_ GE161.out) | exact HB.out))) : w.heap.size ≤ gb168)); have n10_ := Aside0.mk ((by rw [hg]; exact (below_size (by repeat (first | (with_reducible first | exact HB.out | apply aB_ | apply pN_ | apply dB_ | refine sB_ ?_ GE138.out | refine sB_ ?_ GE139.out | refine sB_ ?_ GE161.out) | exact HB.out))) : w.heap.size ≤ gb168)); have n11_ := Aside0.mk ((by rw [hg]; exact Nat.ne_of_lt (blk_lt (g := gb138) (o := .cells #[.string a0_0, .string a0_1, .string a0_2, .slice A0_3 l0_3.length c0_3] 35 (0, 0)) (by (with_reducible repeat (first | refine bN_ ?_ _ | refine bD_ ?_ | refine bA_ ?_ _)); exact BK138.out)) : gb138 ≠ gb168)); have n12_ := Aside0.mk ((by rw [hg]; exact Nat.ne_of_gt (blk_lt (g := gb138) (o := .cells #[.string a0_0, .string a0_1, .string a0_2, .slice A0_3 l0_3.length c0_3] 35 (0, 0)) (by (with_reducible repeat (first | refine bN_ ?_ _ | refine bD_ ?_ | refine bA_ ?_ _)); exact BK138.out)) : gb168 ≠ gb138)); have n13_ := Aside0.mk ((by rw [hg]; exact Nat.ne_of_lt (blk_lt (g := gb139) (o := .cells #[.string a1_0, .string a1_1, .string a1_2, .slice A1_3 l1_3.length c1_3] 35 (0, 0)) (by (with_reducible repeat (first | refine bN_ ?_ _ | refine bD_ ?_ | refine bA_ ?_ _)); exact BK139.out)) : gb139 ≠ gb168)); have n14_ := Aside0.mk ((by rw [hg]; exact Nat.ne_of_gt (blk_lt (g := gb139) (o := .cells #[.string a1_0, .string a1_1, .string a1_2, .slice A1_3 l1_3.length c1_3] 35 (0, 0)) (by (with_reducible repeat (first | refine bN_ ?_ _ | refine bD_ ?_ | refine bA_ ?_ _)); exact BK139.out)) : gb168 ≠ gb139)); have n15_ := Aside0.mk ((by rw [hg]; exact Nat.ne_of_lt (blk_lt (g := gb161) (o := .cells #[.string t155, .string t156, .string t157, .slice Ao45 t158.length co45] 40 (0, 0)) (by (with_reducible repeat (first | refine bN_ ?_ _ | refine bD_ ?_ | refine bA_ ?_ _)); exact BK161.out)) : gb161 ≠ gb168)); have n16_ := Aside0.mk ((by rw [hg]; exact Nat.ne_of_gt (blk_lt (g := gb161) (o := .cells #[.string t155, .string t156, .string t157, .slice Ao45 t158.length co45] 40 (0, 0)) (by (with_reducible repeat (first | refine bN_ ?_ _ | refine bD_ ?_ | refine bA_ ?_ _)); exact BK161.out)) : gb168 ≠ gb161)); clear HO147; clear HO153; clear HO160; clear HO167; clear BK138; clear BK139; clear BK161; clear HB; have HO147 := n0_; have HO153 := n1_; have HO160 := n2_; have HO167 := n3_; have BK138 := n4_; have BK139 := n5_; have BK161 := n6_; have HB := n7_; have BK168 := n8_; have GW168 := n9_; have GE168 := n10_; have NB138_168 := n11_; have NB168_138 := n12_; have NB139_168 := n13_; have NB168_139 := n14_; have NB161_168 := n15_; have NB168_161 := n16_; clear n0_ n1_ n2_ n3_ n4_ n5_ n6_ n7_ n8_ n9_ n10_ n11_ n12_ n13_ n14_ n15_ n16_; clear hb hbox hg; have hnb49 := NB168_138.out; have hnc49 := NB138_168.out; have hnb50 := NB168_139.out; have hnc50 := NB139_168.out; have hnb51 := NB168_161.out; have hnc51 := NB161_168.out; have hcz52_0 : w48.cell? ⟨gb168, 0, none⟩ = some (.string (⟨#[]⟩ : ByteArray)) := (bc_ BK168.out 0).trans rfl; have hcz52_1 : w48.cell? ⟨gb168, 1, none⟩ = some (.string (⟨#[]⟩ : ByteArray)) := (bc_ BK168.out 1).trans rfl; have hcz52_2 : w48.cell? ⟨gb168, 2, none⟩ = some (.string (⟨#[]⟩ : ByteArray)) := (bc_ BK168.out 2).trans rfl; have hcz52_3 : w48.cell? ⟨gb168, 3, none⟩ = some (.slice none 0 0) := (bc_ BK168.out 3).trans rfl; have hfz52_0 := bF_ BK168.out 0; have hfz52_1 := bF_ BK168.out 1; have hfz52_2 := bF_ BK168.out 2; have hfz52_3 := bF_ BK168.out 3; obtain ⟨Ao53, co53, eo53⟩ := Kd.R_slice HO167.out; subst eo53; have hcz54_0 : w48.cell? ⟨gb161, 0, none⟩ = some (.string t155) := (bc_ BK161.out 0).trans rfl; have hcz54_1 : w48.cell? ⟨gb161, 1, none⟩ = some (.string t156) := (bc_ BK161.out 1).trans rfl; have hcz54_2 : w48.cell? ⟨gb161, 2, none⟩ = some (.string t157) := (bc_ BK161.out 2).trans rfl; have hcz54_3 : w48.cell? ⟨gb161, 3, none⟩ = some (.slice Ao45 t158.length co45) := (bc_ BK161.out 3).trans rfl; have hfz54_0 := bF_ BK161.out 0; have hfz54_1 := bF_ BK161.out 1; have hfz54_2 := bF_ BK161.out 2; have hfz54_3 := bF_ BK161.out 3) | ((with_reducible refine gate_callee (f := 25) rfl ?_); refine goesL_ (some 31) rfl rfl Try.func25 (by kernel_rfl) rfl #[.agg #[.string t155, .string t156, .string t157, .slice Ao45 t158.length co45], .agg #[.string t162, .string t163, .string t164, .slice Ao53 t165.length co53]] rfl (by (try simp only [List.map_toArray, List.map_cons, List.map_nil]); first | done | rfl | (simp only [List.length_drop, List.length_take]; rfl)) ?_; (with_reducible refine (impl_SameNode.calls k t155 t156 t157 _ _ t158 t162 t163 t164 _ _ t165 t169 _ ?side1 ?side2 ?side3 ?side4 A24.out).mono ?_); (case side1 => refine (Kd.R_reads' (e := 40) (base := w.heap.size) (ok := fun k_ => (((((True ∧ some k_ ≠ (.slice Ao36 t145.length co36 : Value).ownBlock) ∧ some k_ ≠ (.slice Ao37 t151.length co37 : Value).ownBlock) ∧ k_ ≠ gb161) ∧ some k_ ≠ (.slice Ao53 t165.length co53 : Value).ownBlock) ∧ k_ ≠ gb168)) (n := t158.length) (c := co45) ?_).2.2; exact (by (with_reducible repeat (first | apply rA_ | apply rN_ | apply rD_)); exact (Kd.R_mono (rF_ (p := ⟨gb168, 3, none⟩) (rF_ (p := ⟨gb168, 2, none⟩) (rF_ (p := ⟨gb168, 1, none⟩) (rF_ (p := ⟨gb168, 0, none⟩) (Kd.R_mono HO160.out (fun k_ hk => (⟨hk, hk.2⟩ : _ ∧ k_ ≠ gb168))) (fun _ hk => hk.2) (.string t162)) (fun _ hk => hk.2) (.string t163)) (fun _ hk => hk.2) (.string t164)) (fun _ hk => hk.2) (.slice Ao53 t165.length co53)) (fun _ h_ => h_.1)))); (case side2 => exact (Kd.R_reads' HO160.out).2.1); (case side3 => refine (Kd.R_reads' (e := 40) (base := w.heap.size) (ok := fun k_ => (((((True ∧ some k_ ≠ (.slice Ao36 t145.length co36 : Value).ownBlock) ∧ some k_ ≠ (.slice Ao37 t151.length co37 : Value).ownBlock) ∧ some k_ ≠ (.slice Ao45 t158.length co45 : Value).ownBlock) ∧ k_ ≠ gb161) ∧ k_ ≠ gb168)) (n := t165.length) (c := co53) ?_).2.2; exact (by (with_reducible repeat (first | apply rA_ | apply rN_ | apply rD_)); exact (Kd.R_mono (rF_ (p := ⟨gb168, 3, none⟩) (rF_ (p := ⟨gb168, 2, none⟩) (rF_ (p := ⟨gb168, 1, none⟩) (rF_ (p := ⟨gb168, 0, none⟩) (Kd.R_mono HO167.out (fun k_ hk => (⟨hk, hk.2⟩ : _ ∧ k_ ≠ gb168))) (fun _ hk => hk.2) (.string t162)) (fun _ hk => hk.2) (.string t163)) (fun _ hk => hk.2) (.string t164)) (fun _ hk => hk.2) (.slice Ao53 t165.length co53)) (fun _ h_ => h_.1)))); (case side4 => exact (Kd.R_reads' HO167.out).2.1); rintro e w55 ⟨rfl, hb⟩; refine ⟨_, rfl, ?_⟩; have n0_ := Aside0.mk (Kd.R_below (by (with_reducible repeat (first | apply rA_ | apply rN_ | apply rD_)); exact (Kd.R_mono (rF_ (p := ⟨gb168, 3, none⟩) (rF_ (p := ⟨gb168, 2, none⟩) (rF_ (p := ⟨gb168, 1, none⟩) (rF_ (p := ⟨gb168, 0, none⟩) (Kd.R_mono HO147.out (fun k_ hk => (⟨hk, hk.2⟩ : _ ∧ k_ ≠ gb168))) (fun _ hk => hk.2) (.string t162)) (fun _ hk => hk.2) (.string t163)) (fun _ hk => hk.2) (.string t164)) (fun _ hk => hk.2) (.slice Ao53 t165.length co53)) (fun _ h_ => h_.1))) hb); have n1_ := Aside0.mk (Kd.R_below (by (with_reducible repeat (first | apply rA_ | apply rN_ | apply rD_)); exact (Kd.R_mono (rF_ (p := ⟨gb168, 3, none⟩) (rF_ (p := ⟨gb168, 2, none⟩) (rF_ (p := ⟨gb168, 1, none⟩) (rF_ (p := ⟨gb168, 0, none⟩) (Kd.R_mono HO153.out (fun k_ hk => (⟨hk, hk.2⟩ : _ ∧ k_ ≠ gb168))) (fun _ hk => hk.2) (.string t162)) (fun _ hk => hk.2) (.string t163)) (fun _ hk => hk.2) (.string t164)) (fun _ hk => hk.2) (.slice Ao53 t165.length co53)) (fun _ h_ => h_.1))) hb); have n2_ := Aside0.mk (Kd.R_below (by (with_reducible repeat (first | apply rA_ | apply rN_ | apply rD_)); exact (Kd.R_mono (rF_ (p := ⟨gb168, 3, none⟩) (rF_ (p := ⟨gb168, 2, none⟩) (rF_ (p := ⟨gb168, 1, none⟩) (rF_ (p := ⟨gb168, 0, none⟩) (Kd.R_mono HO160.out (fun k_ hk => (⟨hk, hk.2⟩ : _ ∧ k_ ≠ gb168))) (fun _ hk => hk.2) (.string t162)) (fun _ hk => hk.2) (.string t163)) (fun _ hk => hk.2) (.string t164)) (fun _ hk => hk.2) (.slice Ao53 t165.length co53)) (fun _ h_ => h_.1))) hb); have n3_ := Aside0.mk (Kd.R_below (by (with_reducible repeat (first | apply rA_ | apply rN_ | apply rD_)); exact (Kd.R_mono (rF_ (p := ⟨gb168, 3, none⟩) (rF_ (p := ⟨gb168, 2, none⟩) (rF_ (p := ⟨gb168, 1, none⟩) (rF_ (p := ⟨gb168, 0, none⟩) (Kd.R_mono HO167.out (fun k_ hk => (⟨hk, hk.2⟩ : _ ∧ k_ ≠ gb168))) (fun _ hk => hk.2) (.string t162)) (fun _ hk => hk.2) (.string t163)) (fun _ hk => hk.2) (.string t164)) (fun _ hk => hk.2) (.slice Ao53 t165.length co53)) (fun _ h_ => h_.1))) hb); have n4_ := Aside0.mk (bB_ (g := gb138) (o := .cells #[.string a0_0, .string a0_1, .string a0_2, .slice A0_3 l0_3.length c0_3] 35 (0, 0)) (by (with_reducible repeat (first | refine bN_ ?_ _ | refine bD_ ?_ | refine bA_ ?_ _)); refine blk_far ?_ NB138_168.out _; (with_reducible repeat (first | refine bN_ ?_ _ | refine bD_ ?_ | refine bA_ ?_ _)); refine blk_far ?_ NB138_168.out _; (with_reducible repeat (first | refine bN_ ?_ _ | refine bD_ ?_ | refine bA_ ?_ _)); refine blk_far ?_ NB138_168.out _; (with_reducible repeat (first | refine bN_ ?_ _ | refine bD_ ?_ | refine bA_ ?_ _)); refine blk_far ?_ NB138_168.out _; (with_reducible repeat (first | refine bN_ ?_ _ | refine bD_ ?_ | refine bA_ ?_ _)); exact BK138.out) hb); have n5_ := Aside0.mk (bB_ (g := gb139) (o := .cells #[.string a1_0, .string a1_1, .string a1_2, .slice A1_3 l1_3.length c1_3] 35 (0, 0)) (by (with_reducible repeat (first | refine bN_ ?_ _ | refine bD_ ?_ | refine bA_ ?_ _)); refine blk_far ?_ NB139_168.out _; (with_reducible repeat (first | refine bN_ ?_ _ | refine bD_ ?_ | refine bA_ ?_ _)); refine blk_far ?_ NB139_168.out _; (with_reducible repeat (first | refine bN_ ?_ _ | refine bD_ ?_ | refine bA_ ?_ _)); refine blk_far ?_ NB139_168.out _; (with_reducible repeat (first | refine bN_ ?_ _ | refine bD_ ?_ | refine bA_ ?_ _)); refine blk_far ?_ NB139_168.out _; (with_reducible repeat (first | refine bN_ ?_ _ | refine bD_ ?_ | refine bA_ ?_ _)); exact BK139.out) hb); have n6_ := Aside0.mk (bB_ (g := gb161) (o := .cells #[.string t155, .string t156, .string t157, .slice Ao45 t158.length co45] 40 (0, 0)) (by (with_reducible repeat (first | refine bN_ ?_ _ | refine bD_ ?_ | refine bA_ ?_ _)); refine blk_far ?_ NB161_168.out _; (with_reducible repeat (first | refine bN_ ?_ _ | refine bD_ ?_ | refine bA_ ?_ _)); refine blk_far ?_ NB161_168.out _; (with_reducible repeat (first | refine bN_ ?_ _ | refine bD_ ?_ | refine bA_ ?_ _)); refine blk_far ?_ NB161_168.out _; (with_reducible repeat (first | refine bN_ ?_ _ | refine bD_ ?_ | refine bA_ ?_ _)); refine blk_far ?_ NB161_168.out _; (with_reducible repeat (first | refine bN_ ?_ _ | refine bD_ ?_ | refine bA_ ?_ _)); exact BK161.out) hb); have n7_ := Aside0.mk (bB_ (g := gb168) (o := .cells #[.string t162, .string t163, .string t164, .slice Ao53 t165.length co53] 40 (0, 0)) (by (with_reducible repeat (first | refine bN_ ?_ _ | refine bD_ ?_ | refine bA_ ?_ _)); refine blk_put (cs := #[.string t162, .string t163, .string t164, .slice none 0 0]) ?_ 3 _ rfl; (with_reducible repeat (first | refine bN_ ?_ _ | refine bD_ ?_ | refine bA_ ?_ _)); refine blk_put (cs := #[.string t162, .string t163, .string (⟨#[]⟩ : ByteArray), .slice none 0 0]) ?_ 2 _ rfl; (with_reducible repeat (first | refine bN_ ?_ _ | refine bD_ ?_ | refine bA_ ?_ _)); refine blk_put (cs := #[.string t162, .string (⟨#[]⟩ : ByteArray), .string (⟨#[]⟩ : ByteArray), .slice none 0 0]) ?_ 1 _ rfl; (with_reducible repeat (first | refine bN_ ?_ _ | refine bD_ ?_ | refine bA_ ?_ _)); refine blk_put (cs := #[.string (⟨#[]⟩ : ByteArray), .string (⟨#[]⟩ : ByteArray), .string (⟨#[]⟩ : ByteArray), .slice none 0 0]) ?_ 0 _ rfl; (with_reducible repeat (first | refine bN_ ?_ _ | refine bD_ ?_ | refine bA_ ?_ _)); exact BK168.out) hb); have n8_ := Aside0.mk (below_step (by repeat (first | (with_reducible first | exact HB.out | apply aB_ | apply pN_ | apply dB_ | refine sB_ ?_ GE138.out | refine sB_ ?_ GE139.out | refine sB_ ?_ GE161.out | refine sB_ ?_ GE168.out) | exact HB.out)) hb); clear HO147; clear HO153; clear HO160; clear HO167; clear BK138; clear BK139; clear BK161; clear BK168; clear HB; have HO147 := n0_; have HO153 := n1_; have HO160 := n2_; have HO167 := n3_; have BK138 := n4_; have BK139 := n5_; have BK161 := n6_; have BK168 := n7_; have HB := n8_; clear n0_ n1_ n2_ n3_ n4_ n5_ n6_ n7_ n8_; (try clear hb); (try clear hb2); (try clear hk); (try clear hi)))
    go_ret
    exact ⟨by first | rfl | (simp [errW_none, errW_some] <;> rfl) | (simp [*, errW_none, errW_some] <;> rfl), by repeat (first | (with_reducible first | exact HB.out | apply aB_ | apply pN_ | apply dB_ | refine sB_ ?_ GE138.out | refine sB_ ?_ GE139.out | refine sB_ ?_ GE161.out | refine sB_ ?_ GE168.out) | exact HB.out)⟩
   ·rw [if_neg c25] at H
    have c25b0 : (t169 != t154) = false := by simpa using c25
    (try (have c25b1 : decide (t169 = t154) = true := by simpa using c25))
    (try (have c25b2 : (t169 == t154) = true := by simpa using c25))
    clear c25
    replace H := Option.bind_eq_some_iff.mp H
    obtain ⟨⟨t170, t171, t172, t173⟩, A560, H⟩ := H
    replace H : ((laws_eqNode.f k t155 t156 t157 t158 t170 t171 t172 t173).bind fun t176 => (if t176 = true then ((laws_toNode.f k a1_0 a1_1 a1_2 l1_3).bind fun bt177 => ((laws_eqNode.f k t162 t163 t164 t165 bt177.1 bt177.2.1 bt177.2.2.1 bt177.2.2.2).bind fun t183 => (if t183 = true then (some true) else (some false)))) else (some false))) = some r := H
    have A56 := Aside0.mk A560
    clear A560
    replace H := Option.bind_eq_some_iff.mp H
    obtain ⟨t176, A570, H⟩ := H
    replace H : (if t176 = true then ((laws_toNode.f k a1_0 a1_1 a1_2 l1_3).bind fun bt177 => ((laws_eqNode.f k t162 t163 t164 t165 bt177.1 bt177.2.1 bt177.2.2.1 bt177.2.2.2).bind fun t183 => (if t183 = true then (some true) else (some false)))) else (some false)) = some r := H
    have A57 := Aside0.mk A570
    clear A570
    by_cases c58 : t176 = true
    ·subst c58
     have H1 : ((laws_toNode.f k a1_0 a1_1 a1_2 l1_3).bind fun bt177 => ((laws_eqNode.f k t162 t163 t164 t165 bt177.1 bt177.2.1 bt177.2.2.1 bt177.2.2.2).bind fun t183 => (if t183 = true then (some true) else (some false)))) = some r := by rw [if_pos rfl] at H; exact H
     clear H
     have H := H1
     clear H1
     replace H := Option.bind_eq_some_iff.mp H
     obtain ⟨⟨t177, t178, t179, t180⟩, A590, H⟩ := H
     replace H : ((laws_eqNode.f k t162 t163 t164 t165 t177 t178 t179 t180).bind fun t183 => (if t183 = true then (some true) else (some false))) = some r := H
     have A59 := Aside0.mk A590
     clear A590
     replace H := Option.bind_eq_some_iff.mp H
     obtain ⟨t183, A600, H⟩ := H
     replace H : (if t183 = true then (some true) else (some false)) = some r := H
     have A60 := Aside0.mk A600
     clear A600
     by_cases c61 : t183 = true
     ·subst c61
      have H1 : (some true) = some r := by rw [if_pos rfl] at H; exact H
      clear H
      have H := H1
      clear H1
      obtain rfl := Option.some.inj H
      go_enter Try.func5, Try.ntmps5
      try go_wp2_with (first | ((with_reducible refine gate_dst (N := 2) rfl ?_); refine box_event ?hg (N := 2) ?hd (cs := #[.string a0_0, .string a0_1, .string a0_2, .slice A0_3 l0_3.length c0_3]) (t := 35) ?hr ?_; (case hd => rfl); (case hg => rfl); (case hr => first | (go_simp; done) | (go_simp; rfl)); intro gb138 hg w62 hbox hb; have n0_ := Aside0.mk (below_step (by repeat (first | (with_reducible first | exact HB.out | apply aB_ | apply pN_ | apply dB_) | exact HB.out)) hb); have n1_ := Aside0.mk (hbox); have n2_ := Aside0.mk ((by rw [hg]; exact (below_size (by repeat (first | (with_reducible first | exact HB.out | apply aB_ | apply pN_ | apply dB_) | exact HB.out))) : w.heap.size ≤ gb138)); have n3_ := Aside0.mk ((by rw [hg]; exact (below_size (by repeat (first | (with_reducible first | exact HB.out | apply aB_ | apply pN_ | apply dB_) | exact HB.out))) : w.heap.size ≤ gb138)); clear HB; have HB := n0_; have BK138 := n1_; have GW138 := n2_; have GE138 := n3_; clear n0_ n1_ n2_ n3_; clear hb hbox hg) | ((with_reducible refine gate_dst (N := 3) rfl ?_); refine box_event ?hg (N := 3) ?hd (cs := #[.string a1_0, .string a1_1, .string a1_2, .slice A1_3 l1_3.length c1_3]) (t := 35) ?hr ?_; (case hd => rfl); (case hg => rfl); (case hr => first | (go_simp; done) | (go_simp; rfl)); intro gb139 hg w63 hbox hb; have n0_ := Aside0.mk (bB_ (g := gb138) (o := .cells #[.string a0_0, .string a0_1, .string a0_2, .slice A0_3 l0_3.length c0_3] 35 (0, 0)) (by (with_reducible repeat (first | refine bN_ ?_ _ | refine bD_ ?_ | refine bA_ ?_ _)); exact BK138.out) hb); have n1_ := Aside0.mk (below_step (by repeat (first | (with_reducible first | exact HB.out | apply aB_ | apply pN_ | apply dB_ | refine sB_ ?_ GE138.out) | exact HB.out)) hb); have n2_ := Aside0.mk (hbox); have n3_ := Aside0.mk ((by rw [hg]; exact (below_size (by repeat (first | (with_reducible first | exact HB.out | apply aB_ | apply pN_ | apply dB_ | refine sB_ ?_ GE138.out) | exact HB.out))) : w.heap.size ≤ gb139)); have n4_ := Aside0.mk ((by rw [hg]; exact (below_size (by repeat (first | (with_reducible first | exact HB.out | apply aB_ | apply pN_ | apply dB_ | refine sB_ ?_ GE138.out) | exact HB.out))) : w.heap.size ≤ gb139)); have n5_ := Aside0.mk ((by rw [hg]; exact Nat.ne_of_lt (blk_lt (g := gb138) (o := .cells #[.string a0_0, .string a0_1, .string a0_2, .slice A0_3 l0_3.length c0_3] 35 (0, 0)) (by (with_reducible repeat (first | refine bN_ ?_ _ | refine bD_ ?_ | refine bA_ ?_ _)); exact BK138.out)) : gb138 ≠ gb139)); have n6_ := Aside0.mk ((by rw [hg]; exact Nat.ne_of_gt (blk_lt (g := gb138) (o := .cells #[.string a0_0, .string a0_1, .string a0_2, .slice A0_3 l0_3.length c0_3] 35 (0, 0)) (by (with_reducible repeat (first | refine bN_ ?_ _ | refine bD_ ?_ | refine bA_ ?_ _)); exact BK138.out)) : gb139 ≠ gb138)); clear BK138; clear HB; have BK138 := n0_; have HB := n1_; have BK139 := n2_; have GW139 := n3_; have GE139 := n4_; have NB138_139 := n5_; have NB139_138 := n6_; clear n0_ n1_ n2_ n3_ n4_ n5_ n6_; clear hb hbox hg; have hnb64 := NB138_139.out; have hnc64 := NB139_138.out; have hcz65_0 : w63.cell? ⟨gb138, 0, none⟩ = some (.string a0_0) := (bc_ BK138.out 0).trans rfl; have hcz65_1 : w63.cell? ⟨gb138, 1, none⟩ = some (.string a0_1) := (bc_ BK138.out 1).trans rfl; have hcz65_2 : w63.cell? ⟨gb138, 2, none⟩ = some (.string a0_2) := (bc_ BK138.out 2).trans rfl; have hcz65_3 : w63.cell? ⟨gb138, 3, none⟩ = some (.slice A0_3 l0_3.length c0_3) := (bc_ BK138.out 3).trans rfl; have hfz65_0 := bF_ BK138.out 0; have hfz65_1 := bF_ BK138.out 1; have hfz65_2 := bF_ BK138.out 2; have hfz65_3 := bF_ BK138.out 3) | ((with_reducible refine gate_callee (f := 22) rfl ?_); refine goesL_ (some 12) rfl rfl Try.func22 (by kernel_rfl) rfl #[.agg #[.string a0_0, .string a0_1, .string a0_2, .slice A0_3 l0_3.length c0_3], .int .i64 1048576] rfl (by (try simp only [List.map_toArray, List.map_cons, List.map_nil]); first | done | rfl | (simp only [List.length_drop, List.length_take]; rfl)) ?_; (with_reducible refine (laws_szNode.calls k a0_0 a0_1 a0_2 _ _ l0_3 1048576 t140 _ ?side1 ?side2 A3.out).mono ?_); (case side1 => repeat (first | exact (Kd.C_below HR0_3.out HB.out) | (with_reducible refine Kd.C_alloc ?_ _) | (with_reducible refine Kd.C_drewN ?_ _) | (with_reducible refine Kd.C_drew ?_))); (case side2 => exact HC0_3.out); rintro e w66 ⟨rfl, hb⟩; refine ⟨_, rfl, ?_⟩; have n0_ := Aside0.mk (bB_ (g := gb138) (o := .cells #[.string a0_0, .string a0_1, .string a0_2, .slice A0_3 l0_3.length c0_3] 35 (0, 0)) (by (with_reducible repeat (first | refine bN_ ?_ _ | refine bD_ ?_ | refine bA_ ?_ _)); exact BK138.out) hb); have n1_ := Aside0.mk (bB_ (g := gb139) (o := .cells #[.string a1_0, .string a1_1, .string a1_2, .slice A1_3 l1_3.length c1_3] 35 (0, 0)) (by (with_reducible repeat (first | refine bN_ ?_ _ | refine bD_ ?_ | refine bA_ ?_ _)); exact BK139.out) hb); have n2_ := Aside0.mk (below_step (by repeat (first | (with_reducible first | exact HB.out | apply aB_ | apply pN_ | apply dB_ | refine sB_ ?_ GE138.out | refine sB_ ?_ GE139.out) | exact HB.out)) hb); clear BK138; clear BK139; clear HB; have BK138 := n0_; have BK139 := n1_; have HB := n2_; clear n0_ n1_ n2_; (try clear hb); (try clear hb2); (try clear hk); (try clear hi); have hcz67_0 : w66.cell? ⟨gb139, 0, none⟩ = some (.string a1_0) := (bc_ BK139.out 0).trans rfl; have hcz67_1 : w66.cell? ⟨gb139, 1, none⟩ = some (.string a1_1) := (bc_ BK139.out 1).trans rfl; have hcz67_2 : w66.cell? ⟨gb139, 2, none⟩ = some (.string a1_2) := (bc_ BK139.out 2).trans rfl; have hcz67_3 : w66.cell? ⟨gb139, 3, none⟩ = some (.slice A1_3 l1_3.length c1_3) := (bc_ BK139.out 3).trans rfl; have hfz67_0 := bF_ BK139.out 0; have hfz67_1 := bF_ BK139.out 1; have hfz67_2 := bF_ BK139.out 2; have hfz67_3 := bF_ BK139.out 3) | ((with_reducible refine gate_callee (f := 22) rfl ?_); refine goesL_ (some 17) rfl rfl Try.func22 (by kernel_rfl) rfl #[.agg #[.string a1_0, .string a1_1, .string a1_2, .slice A1_3 l1_3.length c1_3], .int .i64 t140] rfl (by (try simp only [List.map_toArray, List.map_cons, List.map_nil]); first | done | rfl | (simp only [List.length_drop, List.length_take]; rfl)) ?_; (with_reducible refine (laws_szNode.calls k a1_0 a1_1 a1_2 _ _ l1_3 t140 t141 _ ?side1 ?side2 A10.out).mono ?_); (case side1 => repeat (first | exact (Kd.C_below HR1_3.out HB.out) | (with_reducible refine Kd.C_alloc ?_ _) | (with_reducible refine Kd.C_drewN ?_ _) | (with_reducible refine Kd.C_drew ?_))); (case side2 => exact HC1_3.out); rintro e w68 ⟨rfl, hb⟩; refine ⟨_, rfl, ?_⟩; have n0_ := Aside0.mk (bB_ (g := gb138) (o := .cells #[.string a0_0, .string a0_1, .string a0_2, .slice A0_3 l0_3.length c0_3] 35 (0, 0)) (by (with_reducible repeat (first | refine bN_ ?_ _ | refine bD_ ?_ | refine bA_ ?_ _)); exact BK138.out) hb); have n1_ := Aside0.mk (bB_ (g := gb139) (o := .cells #[.string a1_0, .string a1_1, .string a1_2, .slice A1_3 l1_3.length c1_3] 35 (0, 0)) (by (with_reducible repeat (first | refine bN_ ?_ _ | refine bD_ ?_ | refine bA_ ?_ _)); exact BK139.out) hb); have n2_ := Aside0.mk (below_step (by repeat (first | (with_reducible first | exact HB.out | apply aB_ | apply pN_ | apply dB_ | refine sB_ ?_ GE138.out | refine sB_ ?_ GE139.out) | exact HB.out)) hb); clear BK138; clear BK139; clear HB; have BK138 := n0_; have BK139 := n1_; have HB := n2_; clear n0_ n1_ n2_; (try clear hb); (try clear hb2); (try clear hk); (try clear hi)))
      have n0_ := Aside0.mk (bD_ BK138.out)
      have n1_ := Aside0.mk (bD_ BK139.out)
      have n2_ := Aside0.mk (dB_ HB.out)
      clear BK138
      clear BK139
      clear HB
      have BK138 := n0_
      have BK139 := n1_
      have HB := n2_
      clear n0_ n1_ n2_
      refine start_ (n := 6) (S := fun w' => w'.cell? ⟨gb138, 0, none⟩ = some (.string a0_0) ∧ w'.cell? ⟨gb138, 1, none⟩ = some (.string a0_1) ∧ w'.cell? ⟨gb138, 2, none⟩ = some (.string a0_2) ∧ w'.cell? ⟨gb138, 3, none⟩ = some (.slice A0_3 l0_3.length c0_3) ∧ w'.cell? ⟨gb139, 0, none⟩ = some (.string a1_0) ∧ w'.cell? ⟨gb139, 1, none⟩ = some (.string a1_1) ∧ w'.cell? ⟨gb139, 2, none⟩ = some (.string a1_2) ∧ w'.cell? ⟨gb139, 3, none⟩ = some (.slice A1_3 l1_3.length c1_3)) (ds := []) #[false, false, false, false, false, false] (by kernel_rfl) rfl rfl ⟨(bc_ BK138.out 0).trans rfl, (bc_ BK138.out 1).trans rfl, (bc_ BK138.out 2).trans rfl, (bc_ BK138.out 3).trans rfl, (bc_ BK139.out 0).trans rfl, (bc_ BK139.out 1).trans rfl, (bc_ BK139.out 2).trans rfl, (bc_ BK139.out 3).trans rfl⟩ (fun hHeld => ?_)
      generalize w68.drew = w69 at BK138 BK139 HB hHeld ⊢
      refine take_ (i := 0) (N := some 20) (v := ?_) (a' := ?_) #[true, false, false, false, false, false] rfl rfl (by kernel_rfl) (fun _ _ _ h => h) (Or.inl ⟨by rfl, ?_⟩) hHeld ?_ ?_
      rotate_left
      ·rintro w' ⟨s0, s1, s2, s3, s4, s5, s6, s7⟩
       go_simp
       with_reducible rfl
      rotate_left
      ·simp only [Act.put, List.setIfInBounds_toArray, List.set_cons_zero, List.set_cons_succ, i64_w, i32_w]
       rfl
      refine take_ (i := 2) (N := some 22) (v := ?_) (a' := ?_) #[true, false, true, false, false, false] rfl rfl (by kernel_rfl) (fun _ _ _ h => h) (Or.inl ⟨by rfl, ?_⟩) hHeld ?_ ?_
      rotate_left
      ·rintro w' ⟨s0, s1, s2, s3, s4, s5, s6, s7⟩
       go_simp
       with_reducible rfl
      rotate_left
      ·simp only [Act.put, List.setIfInBounds_toArray, List.set_cons_zero, List.set_cons_succ, i64_w, i32_w]
       rfl
      refine one_ (i := 1) (N := some 21) #[true, true, true, false, false, false] rfl rfl (by kernel_rfl) (by decide) (fun K hK => ?_)
      refine goes_ Try.func24 (by kernel_rfl) rfl #[.agg #[.string a0_0, .string a0_1, .string a0_2, .slice A0_3 l0_3.length c0_3]] (by rfl) rfl rfl (by (try simp only [List.map_toArray, List.map_cons, List.map_nil]); first | done | rfl | (simp only [List.length_drop, List.length_take]; rfl)) ?_
      with_reducible refine (laws_toNode.calls k a0_0 a0_1 a0_2 _ _ l0_3 t142 t143 t144 t145 _ ?side1 ?side2 A19.out).mono ?_
      (case side1 => repeat (first | exact (Kd.C_below HR0_3.out HB.out) | (with_reducible refine Kd.C_alloc ?_ _) | (with_reducible refine Kd.C_drewN ?_ _) | (with_reducible refine Kd.C_drew ?_)))
      (case side2 => exact HC0_3.out)
      rintro e w70 ⟨v146, rfl, ho0, hb⟩
      refine ⟨_, rfl, ?_⟩
      have n0_ := Aside0.mk (Kd.R_lower ho0 (below_size (by repeat (first | (with_reducible first | exact HB.out | apply aB_ | apply pN_ | apply dB_ | refine sB_ ?_ GE138.out | refine sB_ ?_ GE139.out) | exact HB.out))))
      have n1_ := Aside0.mk (bB_ (g := gb138) (o := .cells #[.string a0_0, .string a0_1, .string a0_2, .slice A0_3 l0_3.length c0_3] 35 (0, 0)) (by (with_reducible repeat (first | refine bN_ ?_ _ | refine bD_ ?_ | refine bA_ ?_ _)); exact BK138.out) hb)
      have n2_ := Aside0.mk (bB_ (g := gb139) (o := .cells #[.string a1_0, .string a1_1, .string a1_2, .slice A1_3 l1_3.length c1_3] 35 (0, 0)) (by (with_reducible repeat (first | refine bN_ ?_ _ | refine bD_ ?_ | refine bA_ ?_ _)); exact BK139.out) hb)
      have n3_ := Aside0.mk (below_step (by repeat (first | (with_reducible first | exact HB.out | apply aB_ | apply pN_ | apply dB_ | refine sB_ ?_ GE138.out | refine sB_ ?_ GE139.out) | exact HB.out)) hb)
      clear BK138
      clear BK139
      clear HB
      have HO147 := n0_
      have BK138 := n1_
      have BK139 := n2_
      have HB := n3_
      clear n0_ n1_ n2_ n3_
      (try clear hb)
      (try clear hb2)
      (try clear hk)
      (try clear hi)
      (try clear ho0)
      refine hK.out _ _ ⟨(bc_ BK138.out 0).trans rfl, (bc_ BK138.out 1).trans rfl, (bc_ BK138.out 2).trans rfl, (bc_ BK138.out 3).trans rfl, (bc_ BK139.out 0).trans rfl, (bc_ BK139.out 1).trans rfl, (bc_ BK139.out 2).trans rfl, (bc_ BK139.out 3).trans rfl⟩ (fun hHeld => ?_)
      clear hK K
      refine norm_ (a' := ?_) ?_ ?_
      rotate_left
      ·show Act.put _ (some 21) _ = _
       simp only [Act.put, List.setIfInBounds_toArray, List.set_cons_zero, List.set_cons_succ, i64_w, i32_w]
       rfl
      refine one_ (i := 3) (N := some 23) #[true, true, true, true, false, false] rfl rfl (by kernel_rfl) (by decide) (fun K hK => ?_)
      refine goes_ Try.func24 (by kernel_rfl) rfl #[.agg #[.string a1_0, .string a1_1, .string a1_2, .slice A1_3 l1_3.length c1_3]] (by rfl) rfl rfl (by (try simp only [List.map_toArray, List.map_cons, List.map_nil]); first | done | rfl | (simp only [List.length_drop, List.length_take]; rfl)) ?_
      with_reducible refine (laws_toNode.calls k a1_0 a1_1 a1_2 _ _ l1_3 t148 t149 t150 t151 _ ?side1 ?side2 A20.out).mono ?_
      (case side1 => repeat (first | exact (Kd.C_below HR1_3.out HB.out) | (with_reducible refine Kd.C_alloc ?_ _) | (with_reducible refine Kd.C_drewN ?_ _) | (with_reducible refine Kd.C_drew ?_)))
      (case side2 => exact HC1_3.out)
      rintro e w71 ⟨v152, rfl, ho0, hb⟩
      refine ⟨_, rfl, ?_⟩
      have n0_ := Aside0.mk (Kd.R_elder' (by (with_reducible repeat (first | apply rA_ | apply rN_ | apply rD_)); exact HO147.out) (Kd.R_base ho0) hb)
      have n1_ := Aside0.mk (Kd.R_lower (Kd.R_new' ho0 (Kd.R_lt (by (with_reducible repeat (first | apply rA_ | apply rN_ | apply rD_)); exact HO147.out))) (below_size (by repeat (first | (with_reducible first | exact HB.out | apply aB_ | apply pN_ | apply dB_ | refine sB_ ?_ GE138.out | refine sB_ ?_ GE139.out) | exact HB.out))))
      have n2_ := Aside0.mk (bB_ (g := gb138) (o := .cells #[.string a0_0, .string a0_1, .string a0_2, .slice A0_3 l0_3.length c0_3] 35 (0, 0)) (by (with_reducible repeat (first | refine bN_ ?_ _ | refine bD_ ?_ | refine bA_ ?_ _)); exact BK138.out) hb)
      have n3_ := Aside0.mk (bB_ (g := gb139) (o := .cells #[.string a1_0, .string a1_1, .string a1_2, .slice A1_3 l1_3.length c1_3] 35 (0, 0)) (by (with_reducible repeat (first | refine bN_ ?_ _ | refine bD_ ?_ | refine bA_ ?_ _)); exact BK139.out) hb)
      have n4_ := Aside0.mk (below_step (by repeat (first | (with_reducible first | exact HB.out | apply aB_ | apply pN_ | apply dB_ | refine sB_ ?_ GE138.out | refine sB_ ?_ GE139.out) | exact HB.out)) hb)
      clear HO147
      clear BK138
      clear BK139
      clear HB
      have HO147 := n0_
      have HO153 := n1_
      have BK138 := n2_
      have BK139 := n3_
      have HB := n4_
      clear n0_ n1_ n2_ n3_ n4_
      (try clear hb)
      (try clear hb2)
      (try clear hk)
      (try clear hi)
      (try clear ho0)
      obtain ⟨Ao72, co72, eo72⟩ := Kd.R_slice HO147.out
      (first | subst eo72 | (injection eo72 with f1_ f2_ f3_; have f4_ := f1_.symm; have f5_ := f3_.symm; clear f1_ f2_ f3_; subst f4_; subst f5_))
      obtain ⟨Ao73, co73, eo73⟩ := Kd.R_slice HO153.out
      (first | subst eo73 | (injection eo73 with f1_ f2_ f3_; have f4_ := f1_.symm; have f5_ := f3_.symm; clear f1_ f2_ f3_; subst f4_; subst f5_))
      refine hK.out _ _ ⟨(bc_ BK138.out 0).trans rfl, (bc_ BK138.out 1).trans rfl, (bc_ BK138.out 2).trans rfl, (bc_ BK138.out 3).trans rfl, (bc_ BK139.out 0).trans rfl, (bc_ BK139.out 1).trans rfl, (bc_ BK139.out 2).trans rfl, (bc_ BK139.out 3).trans rfl⟩ (fun hHeld => ?_)
      clear hK K
      refine norm_ (a' := ?_) ?_ ?_
      rotate_left
      ·show Act.put _ (some 23) _ = _
       simp only [Act.put, List.setIfInBounds_toArray, List.set_cons_zero, List.set_cons_succ, i64_w, i32_w]
       rfl
      refine one_ (i := 4) (N := some 24) #[true, true, true, true, true, false] rfl rfl (by kernel_rfl) (by decide) (fun K hK => ?_)
      refine goes_ Try.func23 (by kernel_rfl) rfl #[.agg #[.string t142, .string t143, .string t144, .slice Ao72 t145.length co72], .agg #[.string t148, .string t149, .string t150, .slice Ao73 t151.length co73]] (by rfl) rfl rfl (by (try simp only [List.map_toArray, List.map_cons, List.map_nil]); first | done | rfl | (simp only [List.length_drop, List.length_take]; rfl)) ?_
      with_reducible refine (spec_SameNode.calls k t142 t143 t144 _ _ t145 t148 t149 t150 _ _ t151 t154 _ ?side1 ?side2 ?side3 ?side4 A21.out).mono ?_
      (case side1 => repeat (first | exact (Kd.R_reads' HO147.out).2.2 | (with_reducible refine Kd.C_alloc ?_ _) | (with_reducible refine Kd.C_drewN ?_ _) | (with_reducible refine Kd.C_drew ?_)))
      (case side2 => exact (Kd.R_reads' HO147.out).2.1)
      (case side3 => repeat (first | exact (Kd.R_reads' HO153.out).2.2 | (with_reducible refine Kd.C_alloc ?_ _) | (with_reducible refine Kd.C_drewN ?_ _) | (with_reducible refine Kd.C_drew ?_)))
      (case side4 => exact (Kd.R_reads' HO153.out).2.1)
      rintro e w74 ⟨rfl, hb⟩
      refine ⟨_, rfl, ?_⟩
      have n0_ := Aside0.mk (Kd.R_below (by (with_reducible repeat (first | apply rA_ | apply rN_ | apply rD_)); exact HO147.out) hb)
      have n1_ := Aside0.mk (Kd.R_below (by (with_reducible repeat (first | apply rA_ | apply rN_ | apply rD_)); exact HO153.out) hb)
      have n2_ := Aside0.mk (bB_ (g := gb138) (o := .cells #[.string a0_0, .string a0_1, .string a0_2, .slice A0_3 l0_3.length c0_3] 35 (0, 0)) (by (with_reducible repeat (first | refine bN_ ?_ _ | refine bD_ ?_ | refine bA_ ?_ _)); exact BK138.out) hb)
      have n3_ := Aside0.mk (bB_ (g := gb139) (o := .cells #[.string a1_0, .string a1_1, .string a1_2, .slice A1_3 l1_3.length c1_3] 35 (0, 0)) (by (with_reducible repeat (first | refine bN_ ?_ _ | refine bD_ ?_ | refine bA_ ?_ _)); exact BK139.out) hb)
      have n4_ := Aside0.mk (below_step (by repeat (first | (with_reducible first | exact HB.out | apply aB_ | apply pN_ | apply dB_ | refine sB_ ?_ GE138.out | refine sB_ ?_ GE139.out) | exact HB.out)) hb)
      clear HO147
      clear HO153
      clear BK138
      clear BK139
      clear HB
      have HO147 := n0_
      have HO153 := n1_
      have BK138 := n2_
      have BK139 := n3_
      have HB := n4_
      clear n0_ n1_ n2_ n3_ n4_
      (try clear hb)
      (try clear hb2)
      (try clear hk)
      (try clear hi)
      refine hK.out _ _ ⟨(bc_ BK138.out 0).trans rfl, (bc_ BK138.out 1).trans rfl, (bc_ BK138.out 2).trans rfl, (bc_ BK138.out 3).trans rfl, (bc_ BK139.out 0).trans rfl, (bc_ BK139.out 1).trans rfl, (bc_ BK139.out 2).trans rfl, (bc_ BK139.out 3).trans rfl⟩ (fun hHeld => ?_)
      clear hK K
      refine norm_ (a' := ?_) ?_ ?_
      rotate_left
      ·show Act.put _ (some 24) _ = _
       simp only [Act.put, List.setIfInBounds_toArray, List.set_cons_zero, List.set_cons_succ, i64_w, i32_w]
       rfl
      refine pure_ (i := 5) (N := some 6) (v := ?_) (a' := ?_) #[true, true, true, true, true, true] rfl rfl (by kernel_rfl) (fun _ _ _ h => h) (Or.inl ⟨by rfl, ?_⟩) ?_ ?_
      rotate_left
      ·intro w'
       go_simp
       with_reducible rfl
      rotate_left
      ·simp only [Act.put, List.setIfInBounds_toArray, List.set_cons_zero, List.set_cons_succ, i64_w, i32_w]
       rfl
      refine done_ (by kernel_rfl) ?_
      have hcz75_0 : w74.cell? ⟨gb138, 0, none⟩ = some (.string a0_0) := (bc_ BK138.out 0).trans rfl
      have hcz75_1 : w74.cell? ⟨gb138, 1, none⟩ = some (.string a0_1) := (bc_ BK138.out 1).trans rfl
      have hcz75_2 : w74.cell? ⟨gb138, 2, none⟩ = some (.string a0_2) := (bc_ BK138.out 2).trans rfl
      have hcz75_3 : w74.cell? ⟨gb138, 3, none⟩ = some (.slice A0_3 l0_3.length c0_3) := (bc_ BK138.out 3).trans rfl
      have hfz75_0 := bF_ BK138.out 0
      have hfz75_1 := bF_ BK138.out 1
      have hfz75_2 := bF_ BK138.out 2
      have hfz75_3 := bF_ BK138.out 3
      try go_wp2_with (first | ((with_reducible refine gate_callee (f := 24) rfl ?_); refine goesL_ (some 26) rfl rfl Try.func24 (by kernel_rfl) rfl #[.agg #[.string a0_0, .string a0_1, .string a0_2, .slice A0_3 l0_3.length c0_3]] rfl (by (try simp only [List.map_toArray, List.map_cons, List.map_nil]); first | done | rfl | (simp only [List.length_drop, List.length_take]; rfl)) ?_; (with_reducible refine (laws_toNode.calls k a0_0 a0_1 a0_2 _ _ l0_3 t155 t156 t157 t158 _ ?side1 ?side2 A22.out).mono ?_); (case side1 => repeat (first | exact (Kd.C_below HR0_3.out HB.out) | (with_reducible refine Kd.C_alloc ?_ _) | (with_reducible refine Kd.C_drewN ?_ _) | (with_reducible refine Kd.C_drew ?_))); (case side2 => exact HC0_3.out); rintro e w76 ⟨v159, rfl, ho0, hb⟩; refine ⟨_, rfl, ?_⟩; have n0_ := Aside0.mk (Kd.R_elder' (by (with_reducible repeat (first | apply rA_ | apply rN_ | apply rD_)); exact HO147.out) (Kd.R_base ho0) hb); have n1_ := Aside0.mk (Kd.R_elder' (by (with_reducible repeat (first | apply rA_ | apply rN_ | apply rD_)); exact HO153.out) (Kd.R_base ho0) hb); have n2_ := Aside0.mk (Kd.R_lower (Kd.R_new' (Kd.R_new' ho0 (Kd.R_lt (by (with_reducible repeat (first | apply rA_ | apply rN_ | apply rD_)); exact HO147.out))) (Kd.R_lt (by (with_reducible repeat (first | apply rA_ | apply rN_ | apply rD_)); exact HO153.out))) (below_size (by repeat (first | (with_reducible first | exact HB.out | apply aB_ | apply pN_ | apply dB_ | refine sB_ ?_ GE138.out | refine sB_ ?_ GE139.out) | exact HB.out)))); have n3_ := Aside0.mk (bB_ (g := gb138) (o := .cells #[.string a0_0, .string a0_1, .string a0_2, .slice A0_3 l0_3.length c0_3] 35 (0, 0)) (by (with_reducible repeat (first | refine bN_ ?_ _ | refine bD_ ?_ | refine bA_ ?_ _)); exact BK138.out) hb); have n4_ := Aside0.mk (bB_ (g := gb139) (o := .cells #[.string a1_0, .string a1_1, .string a1_2, .slice A1_3 l1_3.length c1_3] 35 (0, 0)) (by (with_reducible repeat (first | refine bN_ ?_ _ | refine bD_ ?_ | refine bA_ ?_ _)); exact BK139.out) hb); have n5_ := Aside0.mk (below_step (by repeat (first | (with_reducible first | exact HB.out | apply aB_ | apply pN_ | apply dB_ | refine sB_ ?_ GE138.out | refine sB_ ?_ GE139.out) | exact HB.out)) hb); clear HO147; clear HO153; clear BK138; clear BK139; clear HB; have HO147 := n0_; have HO153 := n1_; have HO160 := n2_; have BK138 := n3_; have BK139 := n4_; have HB := n5_; clear n0_ n1_ n2_ n3_ n4_ n5_; (try clear hb); (try clear hb2); (try clear hk); (try clear hi); (try clear ho0)) | ((with_reducible refine gate_dst (N := 7) rfl ?_); refine box_event ?hg (N := 7) ?hd (cs := #[.string (⟨#[]⟩ : ByteArray), .string (⟨#[]⟩ : ByteArray), .string (⟨#[]⟩ : ByteArray), .slice none 0 0]) (t := 40) ?hr ?_; (case hd => rfl); (case hg => rfl); (case hr => first | (go_simp; done) | (go_simp; rfl)); intro gb161 hg w77 hbox hb; have n0_ := Aside0.mk (Kd.R_below (Kd.R_elderB (by (with_reducible repeat (first | apply rA_ | apply rN_ | apply rD_)); exact HO147.out) gb161 (Nat.le_of_eq hg.symm)) hb); have n1_ := Aside0.mk (Kd.R_below (Kd.R_elderB (by (with_reducible repeat (first | apply rA_ | apply rN_ | apply rD_)); exact HO153.out) gb161 (Nat.le_of_eq hg.symm)) hb); have n2_ := Aside0.mk (Kd.R_below (Kd.R_elderB (by (with_reducible repeat (first | apply rA_ | apply rN_ | apply rD_)); exact HO160.out) gb161 (Nat.le_of_eq hg.symm)) hb); have n3_ := Aside0.mk (bB_ (g := gb138) (o := .cells #[.string a0_0, .string a0_1, .string a0_2, .slice A0_3 l0_3.length c0_3] 35 (0, 0)) (by (with_reducible repeat (first | refine bN_ ?_ _ | refine bD_ ?_ | refine bA_ ?_ _)); exact BK138.out) hb); have n4_ := Aside0.mk (bB_ (g := gb139) (o := .cells #[.string a1_0, .string a1_1, .string a1_2, .slice A1_3 l1_3.length c1_3] 35 (0, 0)) (by (with_reducible repeat (first | refine bN_ ?_ _ | refine bD_ ?_ | refine bA_ ?_ _)); exact BK139.out) hb); have n5_ := Aside0.mk (below_step (by repeat (first | (with_reducible first | exact HB.out | apply aB_ | apply pN_ | apply dB_ | refine sB_ ?_ GE138.out | refine sB_ ?_ GE139.out) | exact HB.out)) hb); have n6_ := Aside0.mk (hbox); have n7_ := Aside0.mk ((by rw [hg]; exact (below_size (by repeat (first | (with_reducible first | exact HB.out | apply aB_ | apply pN_ | apply dB_ | refine sB_ ?_ GE138.out | refine sB_ ?_ GE139.out) | exact HB.out))) : w.heap.size ≤ gb161)); have n8_ := Aside0.mk ((by rw [hg]; exact (below_size (by repeat (first | (with_reducible first | exact HB.out | apply aB_ | apply pN_ | apply dB_ | refine sB_ ?_ GE138.out | refine sB_ ?_ GE139.out) | exact HB.out))) : w.heap.size ≤ gb161)); have n9_ := Aside0.mk ((by rw [hg]; exact Nat.ne_of_lt (blk_lt (g := gb138) (o := .cells #[.string a0_0, .string a0_1, .string a0_2, .slice A0_3 l0_3.length c0_3] 35 (0, 0)) (by (with_reducible repeat (first | refine bN_ ?_ _ | refine bD_ ?_ | refine bA_ ?_ _)); exact BK138.out)) : gb138 ≠ gb161)); have n10_ := Aside0.mk ((by rw [hg]; exact Nat.ne_of_gt (blk_lt (g := gb138) (o := .cells #[.string a0_0, .string a0_1, .string a0_2, .slice A0_3 l0_3.length c0_3] 35 (0, 0)) (by (with_reducible repeat (first | refine bN_ ?_ _ | refine bD_ ?_ | refine bA_ ?_ _)); exact BK138.out)) : gb161 ≠ gb138)); have n11_ := Aside0.mk ((by rw [hg]; exact Nat.ne_of_lt (blk_lt (g := gb139) (o := .cells #[.string a1_0, .string a1_1, .string a1_2, .slice A1_3 l1_3.length c1_3] 35 (0, 0)) (by (with_reducible repeat (first | refine bN_ ?_ _ | refine bD_ ?_ | refine bA_ ?_ _)); exact BK139.out)) : gb139 ≠ gb161)); have n12_ := Aside0.mk ((by rw [hg]; exact Nat.ne_of_gt (blk_lt (g := gb139) (o := .cells #[.string a1_0, .string a1_1, .string a1_2, .slice A1_3 l1_3.length c1_3] 35 (0, 0)) (by (with_reducible repeat (first | refine bN_ ?_ _ | refine bD_ ?_ | refine bA_ ?_ _)); exact BK139.out)) : gb161 ≠ gb139)); clear HO147; clear HO153; clear HO160; clear BK138; clear BK139; clear HB; have HO147 := n0_; have HO153 := n1_; have HO160 := n2_; have BK138 := n3_; have BK139 := n4_; have HB := n5_; have BK161 := n6_; have GW161 := n7_; have GE161 := n8_; have NB138_161 := n9_; have NB161_138 := n10_; have NB139_161 := n11_; have NB161_139 := n12_; clear n0_ n1_ n2_ n3_ n4_ n5_ n6_ n7_ n8_ n9_ n10_ n11_ n12_; clear hb hbox hg; have hnb78 := NB161_138.out; have hnc78 := NB138_161.out; have hnb79 := NB161_139.out; have hnc79 := NB139_161.out; have hcz80_0 : w77.cell? ⟨gb161, 0, none⟩ = some (.string (⟨#[]⟩ : ByteArray)) := (bc_ BK161.out 0).trans rfl; have hcz80_1 : w77.cell? ⟨gb161, 1, none⟩ = some (.string (⟨#[]⟩ : ByteArray)) := (bc_ BK161.out 1).trans rfl; have hcz80_2 : w77.cell? ⟨gb161, 2, none⟩ = some (.string (⟨#[]⟩ : ByteArray)) := (bc_ BK161.out 2).trans rfl; have hcz80_3 : w77.cell? ⟨gb161, 3, none⟩ = some (.slice none 0 0) := (bc_ BK161.out 3).trans rfl; have hfz80_0 := bF_ BK161.out 0; have hfz80_1 := bF_ BK161.out 1; have hfz80_2 := bF_ BK161.out 2; have hfz80_3 := bF_ BK161.out 3; obtain ⟨Ao81, co81, eo81⟩ := Kd.R_slice HO160.out; subst eo81; have hcz82_0 : w77.cell? ⟨gb139, 0, none⟩ = some (.string a1_0) := (bc_ BK139.out 0).trans rfl; have hcz82_1 : w77.cell? ⟨gb139, 1, none⟩ = some (.string a1_1) := (bc_ BK139.out 1).trans rfl; have hcz82_2 : w77.cell? ⟨gb139, 2, none⟩ = some (.string a1_2) := (bc_ BK139.out 2).trans rfl; have hcz82_3 : w77.cell? ⟨gb139, 3, none⟩ = some (.slice A1_3 l1_3.length c1_3) := (bc_ BK139.out 3).trans rfl; have hfz82_0 := bF_ BK139.out 0; have hfz82_1 := bF_ BK139.out 1; have hfz82_2 := bF_ BK139.out 2; have hfz82_3 := bF_ BK139.out 3) | ((with_reducible refine gate_callee (f := 24) rfl ?_); refine goesL_ (some 28) rfl rfl Try.func24 (by kernel_rfl) rfl #[.agg #[.string a1_0, .string a1_1, .string a1_2, .slice A1_3 l1_3.length c1_3]] rfl (by (try simp only [List.map_toArray, List.map_cons, List.map_nil]); first | done | rfl | (simp only [List.length_drop, List.length_take]; rfl)) ?_; (with_reducible refine (laws_toNode.calls k a1_0 a1_1 a1_2 _ _ l1_3 t162 t163 t164 t165 _ ?side1 ?side2 A23.out).mono ?_); (case side1 => exact Kd.C_below HR1_3.out (by repeat (first | (with_reducible first | exact HB.out | apply aB_ | apply pN_ | apply dB_ | refine sB_ ?_ GE138.out | refine sB_ ?_ GE139.out | refine sB_ ?_ GE161.out) | exact HB.out))); (case side2 => exact HC1_3.out); rintro e w83 ⟨v166, rfl, ho0, hb⟩; refine ⟨_, rfl, ?_⟩; have n0_ := Aside0.mk (Kd.R_elder' (by (with_reducible repeat (first | apply rA_ | apply rN_ | apply rD_)); exact (Kd.R_mono (rF_ (p := ⟨gb161, 3, none⟩) (rF_ (p := ⟨gb161, 2, none⟩) (rF_ (p := ⟨gb161, 1, none⟩) (rF_ (p := ⟨gb161, 0, none⟩) (Kd.R_mono HO147.out (fun k_ hk => (⟨hk, hk.2⟩ : _ ∧ k_ ≠ gb161))) (fun _ hk => hk.2) (.string t155)) (fun _ hk => hk.2) (.string t156)) (fun _ hk => hk.2) (.string t157)) (fun _ hk => hk.2) (.slice Ao81 t158.length co81)) (fun _ h_ => h_.1))) (Kd.R_base ho0) hb); have n1_ := Aside0.mk (Kd.R_elder' (by (with_reducible repeat (first | apply rA_ | apply rN_ | apply rD_)); exact (Kd.R_mono (rF_ (p := ⟨gb161, 3, none⟩) (rF_ (p := ⟨gb161, 2, none⟩) (rF_ (p := ⟨gb161, 1, none⟩) (rF_ (p := ⟨gb161, 0, none⟩) (Kd.R_mono HO153.out (fun k_ hk => (⟨hk, hk.2⟩ : _ ∧ k_ ≠ gb161))) (fun _ hk => hk.2) (.string t155)) (fun _ hk => hk.2) (.string t156)) (fun _ hk => hk.2) (.string t157)) (fun _ hk => hk.2) (.slice Ao81 t158.length co81)) (fun _ h_ => h_.1))) (Kd.R_base ho0) hb); have n2_ := Aside0.mk (Kd.R_elder' (by (with_reducible repeat (first | apply rA_ | apply rN_ | apply rD_)); exact (Kd.R_mono (rF_ (p := ⟨gb161, 3, none⟩) (rF_ (p := ⟨gb161, 2, none⟩) (rF_ (p := ⟨gb161, 1, none⟩) (rF_ (p := ⟨gb161, 0, none⟩) (Kd.R_mono HO160.out (fun k_ hk => (⟨hk, hk.2⟩ : _ ∧ k_ ≠ gb161))) (fun _ hk => hk.2) (.string t155)) (fun _ hk => hk.2) (.string t156)) (fun _ hk => hk.2) (.string t157)) (fun _ hk => hk.2) (.slice Ao81 t158.length co81)) (fun _ h_ => h_.1))) (Kd.R_base ho0) hb); have n3_ := Aside0.mk (Kd.R_lower (Kd.R_newB (Kd.R_new' (Kd.R_new' (Kd.R_new' ho0 (Kd.R_lt (by (with_reducible repeat (first | apply rA_ | apply rN_ | apply rD_)); exact (Kd.R_mono (rF_ (p := ⟨gb161, 3, none⟩) (rF_ (p := ⟨gb161, 2, none⟩) (rF_ (p := ⟨gb161, 1, none⟩) (rF_ (p := ⟨gb161, 0, none⟩) (Kd.R_mono HO147.out (fun k_ hk => (⟨hk, hk.2⟩ : _ ∧ k_ ≠ gb161))) (fun _ hk => hk.2) (.string t155)) (fun _ hk => hk.2) (.string t156)) (fun _ hk => hk.2) (.string t157)) (fun _ hk => hk.2) (.slice Ao81 t158.length co81)) (fun _ h_ => h_.1))))) (Kd.R_lt (by (with_reducible repeat (first | apply rA_ | apply rN_ | apply rD_)); exact (Kd.R_mono (rF_ (p := ⟨gb161, 3, none⟩) (rF_ (p := ⟨gb161, 2, none⟩) (rF_ (p := ⟨gb161, 1, none⟩) (rF_ (p := ⟨gb161, 0, none⟩) (Kd.R_mono HO153.out (fun k_ hk => (⟨hk, hk.2⟩ : _ ∧ k_ ≠ gb161))) (fun _ hk => hk.2) (.string t155)) (fun _ hk => hk.2) (.string t156)) (fun _ hk => hk.2) (.string t157)) (fun _ hk => hk.2) (.slice Ao81 t158.length co81)) (fun _ h_ => h_.1))))) (Kd.R_lt (by (with_reducible repeat (first | apply rA_ | apply rN_ | apply rD_)); exact (Kd.R_mono (rF_ (p := ⟨gb161, 3, none⟩) (rF_ (p := ⟨gb161, 2, none⟩) (rF_ (p := ⟨gb161, 1, none⟩) (rF_ (p := ⟨gb161, 0, none⟩) (Kd.R_mono HO160.out (fun k_ hk => (⟨hk, hk.2⟩ : _ ∧ k_ ≠ gb161))) (fun _ hk => hk.2) (.string t155)) (fun _ hk => hk.2) (.string t156)) (fun _ hk => hk.2) (.string t157)) (fun _ hk => hk.2) (.slice Ao81 t158.length co81)) (fun _ h_ => h_.1))))) (g := gb161) (o := .cells #[.string t155, .string t156, .string t157, .slice Ao81 t158.length co81] 40 (0, 0)) (by (with_reducible repeat (first | refine bN_ ?_ _ | refine bD_ ?_ | refine bA_ ?_ _)); refine blk_put (cs := #[.string t155, .string t156, .string t157, .slice none 0 0]) ?_ 3 _ rfl; (with_reducible repeat (first | refine bN_ ?_ _ | refine bD_ ?_ | refine bA_ ?_ _)); refine blk_put (cs := #[.string t155, .string t156, .string (⟨#[]⟩ : ByteArray), .slice none 0 0]) ?_ 2 _ rfl; (with_reducible repeat (first | refine bN_ ?_ _ | refine bD_ ?_ | refine bA_ ?_ _)); refine blk_put (cs := #[.string t155, .string (⟨#[]⟩ : ByteArray), .string (⟨#[]⟩ : ByteArray), .slice none 0 0]) ?_ 1 _ rfl; (with_reducible repeat (first | refine bN_ ?_ _ | refine bD_ ?_ | refine bA_ ?_ _)); refine blk_put (cs := #[.string (⟨#[]⟩ : ByteArray), .string (⟨#[]⟩ : ByteArray), .string (⟨#[]⟩ : ByteArray), .slice none 0 0]) ?_ 0 _ rfl; (with_reducible repeat (first | refine bN_ ?_ _ | refine bD_ ?_ | refine bA_ ?_ _)); exact BK161.out)) (below_size (by repeat (first | (with_reducible first | exact HB.out | apply aB_ | apply pN_ | apply dB_ | refine sB_ ?_ GE138.out | refine sB_ ?_ GE139.out | refine sB_ ?_ GE161.out) | exact HB.out)))); have n4_ := Aside0.mk (bB_ (g := gb138) (o := .cells #[.string a0_0, .string a0_1, .string a0_2, .slice A0_3 l0_3.length c0_3] 35 (0, 0)) (by (with_reducible repeat (first | refine bN_ ?_ _ | refine bD_ ?_ | refine bA_ ?_ _)); refine blk_far ?_ NB138_161.out _; (with_reducible repeat (first | refine bN_ ?_ _ | refine bD_ ?_ | refine bA_ ?_ _)); refine blk_far ?_ NB138_161.out _; (with_reducible repeat (first | refine bN_ ?_ _ | refine bD_ ?_ | refine bA_ ?_ _)); refine blk_far ?_ NB138_161.out _; (with_reducible repeat (first | refine bN_ ?_ _ | refine bD_ ?_ | refine bA_ ?_ _)); refine blk_far ?_ NB138_161.out _; (with_reducible repeat (first | refine bN_ ?_ _ | refine bD_ ?_ | refine bA_ ?_ _)); exact BK138.out) hb); have n5_ := Aside0.mk (bB_ (g := gb139) (o := .cells #[.string a1_0, .string a1_1, .string a1_2, .slice A1_3 l1_3.length c1_3] 35 (0, 0)) (by (with_reducible repeat (first | refine bN_ ?_ _ | refine bD_ ?_ | refine bA_ ?_ _)); refine blk_far ?_ NB139_161.out _; (with_reducible repeat (first | refine bN_ ?_ _ | refine bD_ ?_ | refine bA_ ?_ _)); refine blk_far ?_ NB139_161.out _; (with_reducible repeat (first | refine bN_ ?_ _ | refine bD_ ?_ | refine bA_ ?_ _)); refine blk_far ?_ NB139_161.out _; (with_reducible repeat (first | refine bN_ ?_ _ | refine bD_ ?_ | refine bA_ ?_ _)); refine blk_far ?_ NB139_161.out _; (with_reducible repeat (first | refine bN_ ?_ _ | refine bD_ ?_ | refine bA_ ?_ _)); exact BK139.out) hb); have n6_ := Aside0.mk (bB_ (g := gb161) (o := .cells #[.string t155, .string t156, .string t157, .slice Ao81 t158.length co81] 40 (0, 0)) (by (with_reducible repeat (first | refine bN_ ?_ _ | refine bD_ ?_ | refine bA_ ?_ _)); refine blk_put (cs := #[.string t155, .string t156, .string t157, .slice none 0 0]) ?_ 3 _ rfl; (with_reducible repeat (first | refine bN_ ?_ _ | refine bD_ ?_ | refine bA_ ?_ _)); refine blk_put (cs := #[.string t155, .string t156, .string (⟨#[]⟩ : ByteArray), .slice none 0 0]) ?_ 2 _ rfl; (with_reducible repeat (first | refine bN_ ?_ _ | refine bD_ ?_ | refine bA_ ?_ _)); refine blk_put (cs := #[.string t155, .string (⟨#[]⟩ : ByteArray), .string (⟨#[]⟩ : ByteArray), .slice none 0 0]) ?_ 1 _ rfl; (with_reducible repeat (first | refine bN_ ?_ _ | refine bD_ ?_ | refine bA_ ?_ _)); refine blk_put (cs := #[.string (⟨#[]⟩ : ByteArray), .string (⟨#[]⟩ : ByteArray), .string (⟨#[]⟩ : ByteArray), .slice none 0 0]) ?_ 0 _ rfl; (with_reducible repeat (first | refine bN_ ?_ _ | refine bD_ ?_ | refine bA_ ?_ _)); exact BK161.out) hb); have n7_ := Aside0.mk (below_step (by repeat (first | (with_reducible first | exact HB.out | apply aB_ | apply pN_ | apply dB_ | refine sB_ ?_ GE138.out | refine sB_ ?_ GE139.out | refine sB_ ?_ GE161.out) | exact HB.out)) hb); clear HO147; clear HO153; clear HO160; clear BK138; clear BK139; clear BK161; clear HB; have HO147 := n0_; have HO153 := n1_; have HO160 := n2_; have HO167 := n3_; have BK138 := n4_; have BK139 := n5_; have BK161 := n6_; have HB := n7_; clear n0_ n1_ n2_ n3_ n4_ n5_ n6_ n7_; (try clear hb); (try clear hb2); (try clear hk); (try clear hi); (try clear ho0)) | ((with_reducible refine gate_dst (N := 8) rfl ?_); refine box_event ?hg (N := 8) ?hd (cs := #[.string (⟨#[]⟩ : ByteArray), .string (⟨#[]⟩ : ByteArray), .string (⟨#[]⟩ : ByteArray), .slice none 0 0]) (t := 40) ?hr ?_; (case hd => rfl); (case hg => rfl); (case hr => first | (go_simp; done) | (go_simp; rfl)); intro gb168 hg w84 hbox hb; have n0_ := Aside0.mk (Kd.R_below (Kd.R_elderB (by (with_reducible repeat (first | apply rA_ | apply rN_ | apply rD_)); exact HO147.out) gb168 (Nat.le_of_eq hg.symm)) hb); have n1_ := Aside0.mk (Kd.R_below (Kd.R_elderB (by (with_reducible repeat (first | apply rA_ | apply rN_ | apply rD_)); exact HO153.out) gb168 (Nat.le_of_eq hg.symm)) hb); have n2_ := Aside0.mk (Kd.R_below (Kd.R_elderB (by (with_reducible repeat (first | apply rA_ | apply rN_ | apply rD_)); exact HO160.out) gb168 (Nat.le_of_eq hg.symm)) hb); have n3_ := Aside0.mk (Kd.R_below (Kd.R_elderB (by (with_reducible repeat (first | apply rA_ | apply rN_ | apply rD_)); exact HO167.out) gb168 (Nat.le_of_eq hg.symm)) hb); have n4_ := Aside0.mk (bB_ (g := gb138) (o := .cells #[.string a0_0, .string a0_1, .string a0_2, .slice A0_3 l0_3.length c0_3] 35 (0, 0)) (by (with_reducible repeat (first | refine bN_ ?_ _ | refine bD_ ?_ | refine bA_ ?_ _)); exact BK138.out) hb); have n5_ := Aside0.mk (bB_ (g := gb139) (o := .cells #[.string a1_0, .string a1_1, .string a1_2, .slice A1_3 l1_3.length c1_3] 35 (0, 0)) (by (with_reducible repeat (first | refine bN_ ?_ _ | refine bD_ ?_ | refine bA_ ?_ _)); exact BK139.out) hb); have n6_ := Aside0.mk (bB_ (g := gb161) (o := .cells #[.string t155, .string t156, .string t157, .slice Ao81 t158.length co81] 40 (0, 0)) (by (with_reducible repeat (first | refine bN_ ?_ _ | refine bD_ ?_ | refine bA_ ?_ _)); exact BK161.out) hb); have n7_ := Aside0.mk (below_step (by repeat (first | (with_reducible first | exact HB.out | apply aB_ | apply pN_ | apply dB_ | refine sB_ ?_ GE138.out | refine sB_ ?_ GE139.out | refine sB_ ?_ GE161.out) | exact HB.out)) hb); have n8_ := Aside0.mk (hbox); have n9_ := Aside0.mk ((by rw [hg]; exact (below_size (by repeat (first | (with_reducible first | exact HB.out | apply aB_ | apply pN_ | apply dB_ | refine sB_ ?_ GE138.out | refine sB_ ?_ GE139.out | refine sB_ ?_ GE161.out) | exact HB.out))) : w.heap.size ≤ gb168)); have n10_ := Aside0.mk ((by rw [hg]; exact (below_size (by repeat (first | (with_reducible first | exact HB.out | apply aB_ | apply pN_ | apply dB_ | refine sB_ ?_ GE138.out | refine sB_ ?_ GE139.out | refine sB_ ?_ GE161.out) | exact HB.out))) : w.heap.size ≤ gb168)); have n11_ := Aside0.mk ((by rw [hg]; exact Nat.ne_of_lt (blk_lt (g := gb138) (o := .cells #[.string a0_0, .string a0_1, .string a0_2, .slice A0_3 l0_3.length c0_3] 35 (0, 0)) (by (with_reducible repeat (first | refine bN_ ?_ _ | refine bD_ ?_ | refine bA_ ?_ _)); exact BK138.out)) : gb138 ≠ gb168)); have n12_ := Aside0.mk ((by rw [hg]; exact Nat.ne_of_gt (blk_lt (g := gb138) (o := .cells #[.string a0_0, .string a0_1, .string a0_2, .slice A0_3 l0_3.length c0_3] 35 (0, 0)) (by (with_reducible repeat (first | refine bN_ ?_ _ | refine bD_ ?_ | refine bA_ ?_ _)); exact BK138.out)) : gb168 ≠ gb138)); have n13_ := Aside0.mk ((by rw [hg]; exact Nat.ne_of_lt (blk_lt (g := gb139) (o := .cells #[.string a1_0, .string a1_1, .string a1_2, .slice A1_3 l1_3.length c1_3] 35 (0, 0)) (by (with_reducible repeat (first | refine bN_ ?_ _ | refine bD_ ?_ | refine bA_ ?_ _)); exact BK139.out)) : gb139 ≠ gb168)); have n14_ := Aside0.mk ((by rw [hg]; exact Nat.ne_of_gt (blk_lt (g := gb139) (o := .cells #[.string a1_0, .string a1_1, .string a1_2, .slice A1_3 l1_3.length c1_3] 35 (0, 0)) (by (with_reducible repeat (first | refine bN_ ?_ _ | refine bD_ ?_ | refine bA_ ?_ _)); exact BK139.out)) : gb168 ≠ gb139)); have n15_ := Aside0.mk ((by rw [hg]; exact Nat.ne_of_lt (blk_lt (g := gb161) (o := .cells #[.string t155, .string t156, .string t157, .slice Ao81 t158.length co81] 40 (0, 0)) (by (with_reducible repeat (first | refine bN_ ?_ _ | refine bD_ ?_ | refine bA_ ?_ _)); exact BK161.out)) : gb161 ≠ gb168)); have n16_ := Aside0.mk ((by rw [hg]; exact Nat.ne_of_gt (blk_lt (g := gb161) (o := .cells #[.string t155, .string t156, .string t157, .slice Ao81 t158.length co81] 40 (0, 0)) (by (with_reducible repeat (first | refine bN_ ?_ _ | refine bD_ ?_ | refine bA_ ?_ _)); exact BK161.out)) : gb168 ≠ gb161)); clear HO147; clear HO153; clear HO160; clear HO167; clear BK138; clear BK139; clear BK161; clear HB; have HO147 := n0_; have HO153 := n1_; have HO160 := n2_; have HO167 := n3_; have BK138 := n4_; have BK139 := n5_; have BK161 := n6_; have HB := n7_; have BK168 := n8_; have GW168 := n9_; have GE168 := n10_; have NB138_168 := n11_; have NB168_138 := n12_; have NB139_168 := n13_; have NB168_139 := n14_; have NB161_168 := n15_; have NB168_161 := n16_; clear n0_ n1_ n2_ n3_ n4_ n5_ n6_ n7_ n8_ n9_ n10_ n11_ n12_ n13_ n14_ n15_ n16_; clear hb hbox hg; have hnb85 := NB168_138.out; have hnc85 := NB138_168.out; have hnb86 := NB168_139.out; have hnc86 := NB139_168.out; have hnb87 := NB168_161.out; have hnc87 := NB161_168.out; have hcz88_0 : w84.cell? ⟨gb168, 0, none⟩ = some (.string (⟨#[]⟩ : ByteArray)) := (bc_ BK168.out 0).trans rfl; have hcz88_1 : w84.cell? ⟨gb168, 1, none⟩ = some (.string (⟨#[]⟩ : ByteArray)) := (bc_ BK168.out 1).trans rfl; have hcz88_2 : w84.cell? ⟨gb168, 2, none⟩ = some (.string (⟨#[]⟩ : ByteArray)) := (bc_ BK168.out 2).trans rfl; have hcz88_3 : w84.cell? ⟨gb168, 3, none⟩ = some (.slice none 0 0) := (bc_ BK168.out 3).trans rfl; have hfz88_0 := bF_ BK168.out 0; have hfz88_1 := bF_ BK168.out 1; have hfz88_2 := bF_ BK168.out 2; have hfz88_3 := bF_ BK168.out 3; obtain ⟨Ao89, co89, eo89⟩ := Kd.R_slice HO167.out; subst eo89; have hcz90_0 : w84.cell? ⟨gb161, 0, none⟩ = some (.string t155) := (bc_ BK161.out 0).trans rfl; have hcz90_1 : w84.cell? ⟨gb161, 1, none⟩ = some (.string t156) := (bc_ BK161.out 1).trans rfl; have hcz90_2 : w84.cell? ⟨gb161, 2, none⟩ = some (.string t157) := (bc_ BK161.out 2).trans rfl; have hcz90_3 : w84.cell? ⟨gb161, 3, none⟩ = some (.slice Ao81 t158.length co81) := (bc_ BK161.out 3).trans rfl; have hfz90_0 := bF_ BK161.out 0; have hfz90_1 := bF_ BK161.out 1; have hfz90_2 := bF_ BK161.out 2; have hfz90_3 := bF_ BK161.out 3) | ((with_reducible refine gate_callee (f := 25) rfl ?_); refine goesL_ (some 31) rfl rfl Try.func25 (by kernel_rfl) rfl #[.agg #[.string t155, .string t156, .string t157, .slice Ao81 t158.length co81], .agg #[.string t162, .string t163, .string t164, .slice Ao89 t165.length co89]] rfl (by (try simp only [List.map_toArray, List.map_cons, List.map_nil]); first | done | rfl | (simp only [List.length_drop, List.length_take]; rfl)) ?_; (with_reducible refine (impl_SameNode.calls k t155 t156 t157 _ _ t158 t162 t163 t164 _ _ t165 t169 _ ?side1 ?side2 ?side3 ?side4 A24.out).mono ?_); (case side1 => refine (Kd.R_reads' (e := 40) (base := w.heap.size) (ok := fun k_ => (((((True ∧ some k_ ≠ (.slice Ao72 t145.length co72 : Value).ownBlock) ∧ some k_ ≠ (.slice Ao73 t151.length co73 : Value).ownBlock) ∧ k_ ≠ gb161) ∧ some k_ ≠ (.slice Ao89 t165.length co89 : Value).ownBlock) ∧ k_ ≠ gb168)) (n := t158.length) (c := co81) ?_).2.2; exact (by (with_reducible repeat (first | apply rA_ | apply rN_ | apply rD_)); exact (Kd.R_mono (rF_ (p := ⟨gb168, 3, none⟩) (rF_ (p := ⟨gb168, 2, none⟩) (rF_ (p := ⟨gb168, 1, none⟩) (rF_ (p := ⟨gb168, 0, none⟩) (Kd.R_mono HO160.out (fun k_ hk => (⟨hk, hk.2⟩ : _ ∧ k_ ≠ gb168))) (fun _ hk => hk.2) (.string t162)) (fun _ hk => hk.2) (.string t163)) (fun _ hk => hk.2) (.string t164)) (fun _ hk => hk.2) (.slice Ao89 t165.length co89)) (fun _ h_ => h_.1)))); (case side2 => exact (Kd.R_reads' HO160.out).2.1); (case side3 => refine (Kd.R_reads' (e := 40) (base := w.heap.size) (ok := fun k_ => (((((True ∧ some k_ ≠ (.slice Ao72 t145.length co72 : Value).ownBlock) ∧ some k_ ≠ (.slice Ao73 t151.length co73 : Value).ownBlock) ∧ some k_ ≠ (.slice Ao81 t158.length co81 : Value).ownBlock) ∧ k_ ≠ gb161) ∧ k_ ≠ gb168)) (n := t165.length) (c := co89) ?_).2.2; exact (by (with_reducible repeat (first | apply rA_ | apply rN_ | apply rD_)); exact (Kd.R_mono (rF_ (p := ⟨gb168, 3, none⟩) (rF_ (p := ⟨gb168, 2, none⟩) (rF_ (p := ⟨gb168, 1, none⟩) (rF_ (p := ⟨gb168, 0, none⟩) (Kd.R_mono HO167.out (fun k_ hk => (⟨hk, hk.2⟩ : _ ∧ k_ ≠ gb168))) (fun _ hk => hk.2) (.string t162)) (fun _ hk => hk.2) (.string t163)) (fun _ hk => hk.2) (.string t164)) (fun _ hk => hk.2) (.slice Ao89 t165.length co89)) (fun _ h_ => h_.1)))); (case side4 => exact (Kd.R_reads' HO167.out).2.1); rintro e w91 ⟨rfl, hb⟩; refine ⟨_, rfl, ?_⟩; have n0_ := Aside0.mk (Kd.R_below (by (with_reducible repeat (first | apply rA_ | apply rN_ | apply rD_)); exact (Kd.R_mono (rF_ (p := ⟨gb168, 3, none⟩) (rF_ (p := ⟨gb168, 2, none⟩) (rF_ (p := ⟨gb168, 1, none⟩) (rF_ (p := ⟨gb168, 0, none⟩) (Kd.R_mono HO147.out (fun k_ hk => (⟨hk, hk.2⟩ : _ ∧ k_ ≠ gb168))) (fun _ hk => hk.2) (.string t162)) (fun _ hk => hk.2) (.string t163)) (fun _ hk => hk.2) (.string t164)) (fun _ hk => hk.2) (.slice Ao89 t165.length co89)) (fun _ h_ => h_.1))) hb); have n1_ := Aside0.mk (Kd.R_below (by (with_reducible repeat (first | apply rA_ | apply rN_ | apply rD_)); exact (Kd.R_mono (rF_ (p := ⟨gb168, 3, none⟩) (rF_ (p := ⟨gb168, 2, none⟩) (rF_ (p := ⟨gb168, 1, none⟩) (rF_ (p := ⟨gb168, 0, none⟩) (Kd.R_mono HO153.out (fun k_ hk => (⟨hk, hk.2⟩ : _ ∧ k_ ≠ gb168))) (fun _ hk => hk.2) (.string t162)) (fun _ hk => hk.2) (.string t163)) (fun _ hk => hk.2) (.string t164)) (fun _ hk => hk.2) (.slice Ao89 t165.length co89)) (fun _ h_ => h_.1))) hb); have n2_ := Aside0.mk (Kd.R_below (by (with_reducible repeat (first | apply rA_ | apply rN_ | apply rD_)); exact (Kd.R_mono (rF_ (p := ⟨gb168, 3, none⟩) (rF_ (p := ⟨gb168, 2, none⟩) (rF_ (p := ⟨gb168, 1, none⟩) (rF_ (p := ⟨gb168, 0, none⟩) (Kd.R_mono HO160.out (fun k_ hk => (⟨hk, hk.2⟩ : _ ∧ k_ ≠ gb168))) (fun _ hk => hk.2) (.string t162)) (fun _ hk => hk.2) (.string t163)) (fun _ hk => hk.2) (.string t164)) (fun _ hk => hk.2) (.slice Ao89 t165.length co89)) (fun _ h_ => h_.1))) hb); have n3_ := Aside0.mk (Kd.R_below (by (with_reducible repeat (first | apply rA_ | apply rN_ | apply rD_)); exact (Kd.R_mono (rF_ (p := ⟨gb168, 3, none⟩) (rF_ (p := ⟨gb168, 2, none⟩) (rF_ (p := ⟨gb168, 1, none⟩) (rF_ (p := ⟨gb168, 0, none⟩) (Kd.R_mono HO167.out (fun k_ hk => (⟨hk, hk.2⟩ : _ ∧ k_ ≠ gb168))) (fun _ hk => hk.2) (.string t162)) (fun _ hk => hk.2) (.string t163)) (fun _ hk => hk.2) (.string t164)) (fun _ hk => hk.2) (.slice Ao89 t165.length co89)) (fun _ h_ => h_.1))) hb); have n4_ := Aside0.mk (bB_ (g := gb138) (o := .cells #[.string a0_0, .string a0_1, .string a0_2, .slice A0_3 l0_3.length c0_3] 35 (0, 0)) (by (with_reducible repeat (first | refine bN_ ?_ _ | refine bD_ ?_ | refine bA_ ?_ _)); refine blk_far ?_ NB138_168.out _; (with_reducible repeat (first | refine bN_ ?_ _ | refine bD_ ?_ | refine bA_ ?_ _)); refine blk_far ?_ NB138_168.out _; (with_reducible repeat (first | refine bN_ ?_ _ | refine bD_ ?_ | refine bA_ ?_ _)); refine blk_far ?_ NB138_168.out _; (with_reducible repeat (first | refine bN_ ?_ _ | refine bD_ ?_ | refine bA_ ?_ _)); refine blk_far ?_ NB138_168.out _; (with_reducible repeat (first | refine bN_ ?_ _ | refine bD_ ?_ | refine bA_ ?_ _)); exact BK138.out) hb); have n5_ := Aside0.mk (bB_ (g := gb139) (o := .cells #[.string a1_0, .string a1_1, .string a1_2, .slice A1_3 l1_3.length c1_3] 35 (0, 0)) (by (with_reducible repeat (first | refine bN_ ?_ _ | refine bD_ ?_ | refine bA_ ?_ _)); refine blk_far ?_ NB139_168.out _; (with_reducible repeat (first | refine bN_ ?_ _ | refine bD_ ?_ | refine bA_ ?_ _)); refine blk_far ?_ NB139_168.out _; (with_reducible repeat (first | refine bN_ ?_ _ | refine bD_ ?_ | refine bA_ ?_ _)); refine blk_far ?_ NB139_168.out _; (with_reducible repeat (first | refine bN_ ?_ _ | refine bD_ ?_ | refine bA_ ?_ _)); refine blk_far ?_ NB139_168.out _; (with_reducible repeat (first | refine bN_ ?_ _ | refine bD_ ?_ | refine bA_ ?_ _)); exact BK139.out) hb); have n6_ := Aside0.mk (bB_ (g := gb161) (o := .cells #[.string t155, .string t156, .string t157, .slice Ao81 t158.length co81] 40 (0, 0)) (by (with_reducible repeat (first | refine bN_ ?_ _ | refine bD_ ?_ | refine bA_ ?_ _)); refine blk_far ?_ NB161_168.out _; (with_reducible repeat (first | refine bN_ ?_ _ | refine bD_ ?_ | refine bA_ ?_ _)); refine blk_far ?_ NB161_168.out _; (with_reducible repeat (first | refine bN_ ?_ _ | refine bD_ ?_ | refine bA_ ?_ _)); refine blk_far ?_ NB161_168.out _; (with_reducible repeat (first | refine bN_ ?_ _ | refine bD_ ?_ | refine bA_ ?_ _)); refine blk_far ?_ NB161_168.out _; (with_reducible repeat (first | refine bN_ ?_ _ | refine bD_ ?_ | refine bA_ ?_ _)); exact BK161.out) hb); have n7_ := Aside0.mk (bB_ (g := gb168) (o := .cells #[.string t162, .string t163, .string t164, .slice Ao89 t165.length co89] 40 (0, 0)) (by (with_reducible repeat (first | refine bN_ ?_ _ | refine bD_ ?_ | refine bA_ ?_ _)); refine blk_put (cs := #[.string t162, .string t163, .string t164, .slice none 0 0]) ?_ 3 _ rfl; (with_reducible repeat (first | refine bN_ ?_ _ | refine bD_ ?_ | refine bA_ ?_ _)); refine blk_put (cs := #[.string t162, .string t163, .string (⟨#[]⟩ : ByteArray), .slice none 0 0]) ?_ 2 _ rfl; (with_reducible repeat (first | refine bN_ ?_ _ | refine bD_ ?_ | refine bA_ ?_ _)); refine blk_put (cs := #[.string t162, .string (⟨#[]⟩ : ByteArray), .string (⟨#[]⟩ : ByteArray), .slice none 0 0]) ?_ 1 _ rfl; (with_reducible repeat (first | refine bN_ ?_ _ | refine bD_ ?_ | refine bA_ ?_ _)); refine blk_put (cs := #[.string (⟨#[]⟩ : ByteArray), .string (⟨#[]⟩ : ByteArray), .string (⟨#[]⟩ : ByteArray), .slice none 0 0]) ?_ 0 _ rfl; (with_reducible repeat (first | refine bN_ ?_ _ | refine bD_ ?_ | refine bA_ ?_ _)); exact BK168.out) hb); have n8_ := Aside0.mk (below_step (by repeat (first | (with_reducible first | exact HB.out | apply aB_ | apply pN_ | apply dB_ | refine sB_ ?_ GE138.out | refine sB_ ?_ GE139.out | refine sB_ ?_ GE161.out | refine sB_ ?_ GE168.out) | exact HB.out)) hb); clear HO147; clear HO153; clear HO160; clear HO167; clear BK138; clear BK139; clear BK161; clear BK168; clear HB; have HO147 := n0_; have HO153 := n1_; have HO160 := n2_; have HO167 := n3_; have BK138 := n4_; have BK139 := n5_; have BK161 := n6_; have BK168 := n7_; have HB := n8_; clear n0_ n1_ n2_ n3_ n4_ n5_ n6_ n7_ n8_; (try clear hb); (try clear hb2); (try clear hk); (try clear hi)))
      have n0_ := Aside0.mk (rD_ HO147.out)
      have n1_ := Aside0.mk (rD_ HO153.out)
      have n2_ := Aside0.mk (rD_ HO160.out)
      have n3_ := Aside0.mk (rD_ HO167.out)
      have n4_ := Aside0.mk (bD_ BK138.out)
      have n5_ := Aside0.mk (bD_ BK139.out)
      have n6_ := Aside0.mk (bD_ BK161.out)
      have n7_ := Aside0.mk (bD_ BK168.out)
      have n8_ := Aside0.mk (dB_ HB.out)
      clear HO147
      clear HO153
      clear HO160
      clear HO167
      clear BK138
      clear BK139
      clear BK161
      clear BK168
      clear HB
      have HO147 := n0_
      have HO153 := n1_
      have HO160 := n2_
      have HO167 := n3_
      have BK138 := n4_
      have BK139 := n5_
      have BK161 := n6_
      have BK168 := n7_
      have HB := n8_
      clear n0_ n1_ n2_ n3_ n4_ n5_ n6_ n7_ n8_
      refine start_ (n := 5) (S := fun w' => w'.cell? ⟨gb161, 0, none⟩ = some (.string t155) ∧ w'.cell? ⟨gb161, 1, none⟩ = some (.string t156) ∧ w'.cell? ⟨gb161, 2, none⟩ = some (.string t157) ∧ w'.cell? ⟨gb161, 3, none⟩ = some (.slice Ao81 t158.length co81) ∧ w'.cell? ⟨gb138, 0, none⟩ = some (.string a0_0) ∧ w'.cell? ⟨gb138, 1, none⟩ = some (.string a0_1) ∧ w'.cell? ⟨gb138, 2, none⟩ = some (.string a0_2) ∧ w'.cell? ⟨gb138, 3, none⟩ = some (.slice A0_3 l0_3.length c0_3)) (ds := []) #[false, false, false, false, false] (by kernel_rfl) rfl rfl ⟨(bc_ BK161.out 0).trans rfl, (bc_ BK161.out 1).trans rfl, (bc_ BK161.out 2).trans rfl, (bc_ BK161.out 3).trans rfl, (bc_ BK138.out 0).trans rfl, (bc_ BK138.out 1).trans rfl, (bc_ BK138.out 2).trans rfl, (bc_ BK138.out 3).trans rfl⟩ (fun hHeld => ?_)
      generalize w91.drew = w92 at HO147 HO153 HO160 HO167 BK138 BK139 BK161 BK168 HB hHeld ⊢
      refine take_ (i := 0) (N := some 35) (v := ?_) (a' := ?_) #[true, false, false, false, false] rfl rfl (by kernel_rfl) (fun _ _ _ h => h) (Or.inl ⟨by rfl, ?_⟩) hHeld ?_ ?_
      rotate_left
      ·rintro w' ⟨s0, s1, s2, s3, s4, s5, s6, s7⟩
       go_simp
       with_reducible rfl
      rotate_left
      ·simp only [Act.put, List.setIfInBounds_toArray, List.set_cons_zero, List.set_cons_succ, i64_w, i32_w]
       rfl
      refine take_ (i := 1) (N := some 36) (v := ?_) (a' := ?_) #[true, true, false, false, false] rfl rfl (by kernel_rfl) (fun _ _ _ h => h) (Or.inl ⟨by rfl, ?_⟩) hHeld ?_ ?_
      rotate_left
      ·rintro w' ⟨s0, s1, s2, s3, s4, s5, s6, s7⟩
       go_simp
       with_reducible rfl
      rotate_left
      ·simp only [Act.put, List.setIfInBounds_toArray, List.set_cons_zero, List.set_cons_succ, i64_w, i32_w]
       rfl
      refine one_ (i := 2) (N := some 37) #[true, true, true, false, false] rfl rfl (by kernel_rfl) (by decide) (fun K hK => ?_)
      refine goes_ Try.func24 (by kernel_rfl) rfl #[.agg #[.string a0_0, .string a0_1, .string a0_2, .slice A0_3 l0_3.length c0_3]] (by rfl) rfl rfl (by (try simp only [List.map_toArray, List.map_cons, List.map_nil]); first | done | rfl | (simp only [List.length_drop, List.length_take]; rfl)) ?_
      with_reducible refine (laws_toNode.calls k a0_0 a0_1 a0_2 _ _ l0_3 t170 t171 t172 t173 _ ?side1 ?side2 A56.out).mono ?_
      (case side1 => repeat (first | exact (Kd.C_below HR0_3.out HB.out) | (with_reducible refine Kd.C_alloc ?_ _) | (with_reducible refine Kd.C_drewN ?_ _) | (with_reducible refine Kd.C_drew ?_)))
      (case side2 => exact HC0_3.out)
      rintro e w93 ⟨v174, rfl, ho0, hb⟩
      refine ⟨_, rfl, ?_⟩
      have n0_ := Aside0.mk (Kd.R_elder' (by (with_reducible repeat (first | apply rA_ | apply rN_ | apply rD_)); exact HO147.out) (Kd.R_base ho0) hb)
      have n1_ := Aside0.mk (Kd.R_elder' (by (with_reducible repeat (first | apply rA_ | apply rN_ | apply rD_)); exact HO153.out) (Kd.R_base ho0) hb)
      have n2_ := Aside0.mk (Kd.R_elder' (by (with_reducible repeat (first | apply rA_ | apply rN_ | apply rD_)); exact HO160.out) (Kd.R_base ho0) hb)
      have n3_ := Aside0.mk (Kd.R_elder' (by (with_reducible repeat (first | apply rA_ | apply rN_ | apply rD_)); exact HO167.out) (Kd.R_base ho0) hb)
      have n4_ := Aside0.mk (Kd.R_lower (Kd.R_newB (Kd.R_newB (Kd.R_new' (Kd.R_new' (Kd.R_new' (Kd.R_new' ho0 (Kd.R_lt (by (with_reducible repeat (first | apply rA_ | apply rN_ | apply rD_)); exact HO147.out))) (Kd.R_lt (by (with_reducible repeat (first | apply rA_ | apply rN_ | apply rD_)); exact HO153.out))) (Kd.R_lt (by (with_reducible repeat (first | apply rA_ | apply rN_ | apply rD_)); exact HO160.out))) (Kd.R_lt (by (with_reducible repeat (first | apply rA_ | apply rN_ | apply rD_)); exact HO167.out))) (g := gb161) (o := .cells #[.string t155, .string t156, .string t157, .slice Ao81 t158.length co81] 40 (0, 0)) (by (with_reducible repeat (first | refine bN_ ?_ _ | refine bD_ ?_ | refine bA_ ?_ _)); exact BK161.out)) (g := gb168) (o := .cells #[.string t162, .string t163, .string t164, .slice Ao89 t165.length co89] 40 (0, 0)) (by (with_reducible repeat (first | refine bN_ ?_ _ | refine bD_ ?_ | refine bA_ ?_ _)); exact BK168.out)) (below_size (by repeat (first | (with_reducible first | exact HB.out | apply aB_ | apply pN_ | apply dB_ | refine sB_ ?_ GE138.out | refine sB_ ?_ GE139.out | refine sB_ ?_ GE161.out | refine sB_ ?_ GE168.out) | exact HB.out))))
      have n5_ := Aside0.mk (bB_ (g := gb138) (o := .cells #[.string a0_0, .string a0_1, .string a0_2, .slice A0_3 l0_3.length c0_3] 35 (0, 0)) (by (with_reducible repeat (first | refine bN_ ?_ _ | refine bD_ ?_ | refine bA_ ?_ _)); exact BK138.out) hb)
      have n6_ := Aside0.mk (bB_ (g := gb139) (o := .cells #[.string a1_0, .string a1_1, .string a1_2, .slice A1_3 l1_3.length c1_3] 35 (0, 0)) (by (with_reducible repeat (first | refine bN_ ?_ _ | refine bD_ ?_ | refine bA_ ?_ _)); exact BK139.out) hb)
      have n7_ := Aside0.mk (bB_ (g := gb161) (o := .cells #[.string t155, .string t156, .string t157, .slice Ao81 t158.length co81] 40 (0, 0)) (by (with_reducible repeat (first | refine bN_ ?_ _ | refine bD_ ?_ | refine bA_ ?_ _)); exact BK161.out) hb)
      have n8_ := Aside0.mk (bB_ (g := gb168) (o := .cells #[.string t162, .string t163, .string t164, .slice Ao89 t165.length co89] 40 (0, 0)) (by (with_reducible repeat (first | refine bN_ ?_ _ | refine bD_ ?_ | refine bA_ ?_ _)); exact BK168.out) hb)
      have n9_ := Aside0.mk (below_step (by repeat (first | (with_reducible first | exact HB.out | apply aB_ | apply pN_ | apply dB_ | refine sB_ ?_ GE138.out | refine sB_ ?_ GE139.out | refine sB_ ?_ GE161.out | refine sB_ ?_ GE168.out) | exact HB.out)) hb)
      clear HO147
      clear HO153
      clear HO160
      clear HO167
      clear BK138
      clear BK139
      clear BK161
      clear BK168
      clear HB
      have HO147 := n0_
      have HO153 := n1_
      have HO160 := n2_
      have HO167 := n3_
      have HO175 := n4_
      have BK138 := n5_
      have BK139 := n6_
      have BK161 := n7_
      have BK168 := n8_
      have HB := n9_
      clear n0_ n1_ n2_ n3_ n4_ n5_ n6_ n7_ n8_ n9_
      (try clear hb)
      (try clear hb2)
      (try clear hk)
      (try clear hi)
      (try clear ho0)
      obtain ⟨Ao94, co94, eo94⟩ := Kd.R_slice HO175.out
      (first | subst eo94 | (injection eo94 with f1_ f2_ f3_; have f4_ := f1_.symm; have f5_ := f3_.symm; clear f1_ f2_ f3_; subst f4_; subst f5_))
      refine hK.out _ _ ⟨(bc_ BK161.out 0).trans rfl, (bc_ BK161.out 1).trans rfl, (bc_ BK161.out 2).trans rfl, (bc_ BK161.out 3).trans rfl, (bc_ BK138.out 0).trans rfl, (bc_ BK138.out 1).trans rfl, (bc_ BK138.out 2).trans rfl, (bc_ BK138.out 3).trans rfl⟩ (fun hHeld => ?_)
      clear hK K
      refine norm_ (a' := ?_) ?_ ?_
      rotate_left
      ·show Act.put _ (some 37) _ = _
       simp only [Act.put, List.setIfInBounds_toArray, List.set_cons_zero, List.set_cons_succ, i64_w, i32_w]
       rfl
      refine one_ (i := 3) (N := some 38) #[true, true, true, true, false] rfl rfl (by kernel_rfl) (by decide) (fun K hK => ?_)
      refine goes_ Try.func26 (by kernel_rfl) rfl #[.agg #[.string t155, .string t156, .string t157, .slice Ao81 t158.length co81], .agg #[.string t170, .string t171, .string t172, .slice Ao94 t173.length co94]] (by rfl) rfl rfl (by (try simp only [List.map_toArray, List.map_cons, List.map_nil]); first | done | rfl | (simp only [List.length_drop, List.length_take]; rfl)) ?_
      with_reducible refine (laws_eqNode.calls k t155 t156 t157 _ _ t158 t170 t171 t172 _ _ t173 true _ ?side1 ?side2 ?side3 ?side4 A57.out).mono ?_
      (case side1 => repeat (first | exact (Kd.R_reads' HO160.out).2.2 | (with_reducible refine Kd.C_alloc ?_ _) | (with_reducible refine Kd.C_drewN ?_ _) | (with_reducible refine Kd.C_drew ?_)))
      (case side2 => exact (Kd.R_reads' HO160.out).2.1)
      (case side3 => repeat (first | exact (Kd.R_reads' HO175.out).2.2 | (with_reducible refine Kd.C_alloc ?_ _) | (with_reducible refine Kd.C_drewN ?_ _) | (with_reducible refine Kd.C_drew ?_)))
      (case side4 => exact (Kd.R_reads' HO175.out).2.1)
      rintro e w95 ⟨rfl, hb⟩
      refine ⟨_, rfl, ?_⟩
      have n0_ := Aside0.mk (Kd.R_below (by (with_reducible repeat (first | apply rA_ | apply rN_ | apply rD_)); exact HO147.out) hb)
      have n1_ := Aside0.mk (Kd.R_below (by (with_reducible repeat (first | apply rA_ | apply rN_ | apply rD_)); exact HO153.out) hb)
      have n2_ := Aside0.mk (Kd.R_below (by (with_reducible repeat (first | apply rA_ | apply rN_ | apply rD_)); exact HO160.out) hb)
      have n3_ := Aside0.mk (Kd.R_below (by (with_reducible repeat (first | apply rA_ | apply rN_ | apply rD_)); exact HO167.out) hb)
      have n4_ := Aside0.mk (Kd.R_below (by (with_reducible repeat (first | apply rA_ | apply rN_ | apply rD_)); exact HO175.out) hb)
      have n5_ := Aside0.mk (bB_ (g := gb138) (o := .cells #[.string a0_0, .string a0_1, .string a0_2, .slice A0_3 l0_3.length c0_3] 35 (0, 0)) (by (with_reducible repeat (first | refine bN_ ?_ _ | refine bD_ ?_ | refine bA_ ?_ _)); exact BK138.out) hb)
      have n6_ := Aside0.mk (bB_ (g := gb139) (o := .cells #[.string a1_0, .string a1_1, .string a1_2, .slice A1_3 l1_3.length c1_3] 35 (0, 0)) (by (with_reducible repeat (first | refine bN_ ?_ _ | refine bD_ ?_ | refine bA_ ?_ _)); exact BK139.out) hb)
      have n7_ := Aside0.mk (bB_ (g := gb161) (o := .cells #[.string t155, .string t156, .string t157, .slice Ao81 t158.length co81] 40 (0, 0)) (by (with_reducible repeat (first | refine bN_ ?_ _ | refine bD_ ?_ | refine bA_ ?_ _)); exact BK161.out) hb)
      have n8_ := Aside0.mk (bB_ (g := gb168) (o := .cells #[.string t162, .string t163, .string t164, .slice Ao89 t165.length co89] 40 (0, 0)) (by (with_reducible repeat (first | refine bN_ ?_ _ | refine bD_ ?_ | refine bA_ ?_ _)); exact BK168.out) hb)
      have n9_ := Aside0.mk (below_step (by repeat (first | (with_reducible first | exact HB.out | apply aB_ | apply pN_ | apply dB_ | refine sB_ ?_ GE138.out | refine sB_ ?_ GE139.out | refine sB_ ?_ GE161.out | refine sB_ ?_ GE168.out) | exact HB.out)) hb)
      clear HO147
      clear HO153
      clear HO160
      clear HO167
      clear HO175
      clear BK138
      clear BK139
      clear BK161
      clear BK168
      clear HB
      have HO147 := n0_
      have HO153 := n1_
      have HO160 := n2_
      have HO167 := n3_
      have HO175 := n4_
      have BK138 := n5_
      have BK139 := n6_
      have BK161 := n7_
      have BK168 := n8_
      have HB := n9_
      clear n0_ n1_ n2_ n3_ n4_ n5_ n6_ n7_ n8_ n9_
      (try clear hb)
      (try clear hb2)
      (try clear hk)
      (try clear hi)
      refine hK.out _ _ ⟨(bc_ BK161.out 0).trans rfl, (bc_ BK161.out 1).trans rfl, (bc_ BK161.out 2).trans rfl, (bc_ BK161.out 3).trans rfl, (bc_ BK138.out 0).trans rfl, (bc_ BK138.out 1).trans rfl, (bc_ BK138.out 2).trans rfl, (bc_ BK138.out 3).trans rfl⟩ (fun hHeld => ?_)
      clear hK K
      refine norm_ (a' := ?_) ?_ ?_
      rotate_left
      ·show Act.put _ (some 38) _ = _
       simp only [Act.put, List.setIfInBounds_toArray, List.set_cons_zero, List.set_cons_succ, i64_w, i32_w]
       rfl
      refine pure_ (i := 4) (N := some 39) (v := ?_) (a' := ?_) #[true, true, true, true, true] rfl rfl (by kernel_rfl) (fun _ _ _ h => h) (Or.inl ⟨by rfl, ?_⟩) ?_ ?_
      rotate_left
      ·intro w'
       go_simp
       with_reducible rfl
      rotate_left
      ·simp only [Act.put, List.setIfInBounds_toArray, List.set_cons_zero, List.set_cons_succ, i64_w, i32_w]
       rfl
      refine done_ (by kernel_rfl) ?_
      try go_wp2
      have n0_ := Aside0.mk (rD_ HO147.out)
      have n1_ := Aside0.mk (rD_ HO153.out)
      have n2_ := Aside0.mk (rD_ HO160.out)
      have n3_ := Aside0.mk (rD_ HO167.out)
      have n4_ := Aside0.mk (rD_ HO175.out)
      have n5_ := Aside0.mk (bD_ BK138.out)
      have n6_ := Aside0.mk (bD_ BK139.out)
      have n7_ := Aside0.mk (bD_ BK161.out)
      have n8_ := Aside0.mk (bD_ BK168.out)
      have n9_ := Aside0.mk (dB_ HB.out)
      clear HO147
      clear HO153
      clear HO160
      clear HO167
      clear HO175
      clear BK138
      clear BK139
      clear BK161
      clear BK168
      clear HB
      have HO147 := n0_
      have HO153 := n1_
      have HO160 := n2_
      have HO167 := n3_
      have HO175 := n4_
      have BK138 := n5_
      have BK139 := n6_
      have BK161 := n7_
      have BK168 := n8_
      have HB := n9_
      clear n0_ n1_ n2_ n3_ n4_ n5_ n6_ n7_ n8_ n9_
      refine start_ (n := 5) (S := fun w' => w'.cell? ⟨gb168, 0, none⟩ = some (.string t162) ∧ w'.cell? ⟨gb168, 1, none⟩ = some (.string t163) ∧ w'.cell? ⟨gb168, 2, none⟩ = some (.string t164) ∧ w'.cell? ⟨gb168, 3, none⟩ = some (.slice Ao89 t165.length co89) ∧ w'.cell? ⟨gb139, 0, none⟩ = some (.string a1_0) ∧ w'.cell? ⟨gb139, 1, none⟩ = some (.string a1_1) ∧ w'.cell? ⟨gb139, 2, none⟩ = some (.string a1_2) ∧ w'.cell? ⟨gb139, 3, none⟩ = some (.slice A1_3 l1_3.length c1_3)) (ds := []) #[false, false, false, false, false] (by kernel_rfl) rfl rfl ⟨(bc_ BK168.out 0).trans rfl, (bc_ BK168.out 1).trans rfl, (bc_ BK168.out 2).trans rfl, (bc_ BK168.out 3).trans rfl, (bc_ BK139.out 0).trans rfl, (bc_ BK139.out 1).trans rfl, (bc_ BK139.out 2).trans rfl, (bc_ BK139.out 3).trans rfl⟩ (fun hHeld => ?_)
      generalize w95.drew = w96 at HO147 HO153 HO160 HO167 HO175 BK138 BK139 BK161 BK168 HB hHeld ⊢
      refine take_ (i := 0) (N := some 40) (v := ?_) (a' := ?_) #[true, false, false, false, false] rfl rfl (by kernel_rfl) (fun _ _ _ h => h) (Or.inl ⟨by rfl, ?_⟩) hHeld ?_ ?_
      rotate_left
      ·rintro w' ⟨s0, s1, s2, s3, s4, s5, s6, s7⟩
       go_simp
       with_reducible rfl
      rotate_left
      ·simp only [Act.put, List.setIfInBounds_toArray, List.set_cons_zero, List.set_cons_succ, i64_w, i32_w]
       rfl
      refine take_ (i := 1) (N := some 41) (v := ?_) (a' := ?_) #[true, true, false, false, false] rfl rfl (by kernel_rfl) (fun _ _ _ h => h) (Or.inl ⟨by rfl, ?_⟩) hHeld ?_ ?_
      rotate_left
      ·rintro w' ⟨s0, s1, s2, s3, s4, s5, s6, s7⟩
       go_simp
       with_reducible rfl
      rotate_left
      ·simp only [Act.put, List.setIfInBounds_toArray, List.set_cons_zero, List.set_cons_succ, i64_w, i32_w]
       rfl
      refine one_ (i := 2) (N := some 42) #[true, true, true, false, false] rfl rfl (by kernel_rfl) (by decide) (fun K hK => ?_)
      refine goes_ Try.func24 (by kernel_rfl) rfl #[.agg #[.string a1_0, .string a1_1, .string a1_2, .slice A1_3 l1_3.length c1_3]] (by rfl) rfl rfl (by (try simp only [List.map_toArray, List.map_cons, List.map_nil]); first | done | rfl | (simp only [List.length_drop, List.length_take]; rfl)) ?_
      with_reducible refine (laws_toNode.calls k a1_0 a1_1 a1_2 _ _ l1_3 t177 t178 t179 t180 _ ?side1 ?side2 A59.out).mono ?_
      (case side1 => repeat (first | exact (Kd.C_below HR1_3.out HB.out) | (with_reducible refine Kd.C_alloc ?_ _) | (with_reducible refine Kd.C_drewN ?_ _) | (with_reducible refine Kd.C_drew ?_)))
      (case side2 => exact HC1_3.out)
      rintro e w97 ⟨v181, rfl, ho0, hb⟩
      refine ⟨_, rfl, ?_⟩
      have n0_ := Aside0.mk (Kd.R_elder' (by (with_reducible repeat (first | apply rA_ | apply rN_ | apply rD_)); exact HO147.out) (Kd.R_base ho0) hb)
      have n1_ := Aside0.mk (Kd.R_elder' (by (with_reducible repeat (first | apply rA_ | apply rN_ | apply rD_)); exact HO153.out) (Kd.R_base ho0) hb)
      have n2_ := Aside0.mk (Kd.R_elder' (by (with_reducible repeat (first | apply rA_ | apply rN_ | apply rD_)); exact HO160.out) (Kd.R_base ho0) hb)
      have n3_ := Aside0.mk (Kd.R_elder' (by (with_reducible repeat (first | apply rA_ | apply rN_ | apply rD_)); exact HO167.out) (Kd.R_base ho0) hb)
      have n4_ := Aside0.mk (Kd.R_elder' (by (with_reducible repeat (first | apply rA_ | apply rN_ | apply rD_)); exact HO175.out) (Kd.R_base ho0) hb)
      have n5_ := Aside0.mk (Kd.R_lower (Kd.R_newB (Kd.R_newB (Kd.R_new' (Kd.R_new' (Kd.R_new' (Kd.R_new' (Kd.R_new' ho0 (Kd.R_lt (by (with_reducible repeat (first | apply rA_ | apply rN_ | apply rD_)); exact HO147.out))) (Kd.R_lt (by (with_reducible repeat (first | apply rA_ | apply rN_ | apply rD_)); exact HO153.out))) (Kd.R_lt (by (with_reducible repeat (first | apply rA_ | apply rN_ | apply rD_)); exact HO160.out))) (Kd.R_lt (by (with_reducible repeat (first | apply rA_ | apply rN_ | apply rD_)); exact HO167.out))) (Kd.R_lt (by (with_reducible repeat (first | apply rA_ | apply rN_ | apply rD_)); exact HO175.out))) (g := gb161) (o := .cells #[.string t155, .string t156, .string t157, .slice Ao81 t158.length co81] 40 (0, 0)) (by (with_reducible repeat (first | refine bN_ ?_ _ | refine bD_ ?_ | refine bA_ ?_ _)); exact BK161.out)) (g := gb168) (o := .cells #[.string t162, .string t163, .string t164, .slice Ao89 t165.length co89] 40 (0, 0)) (by (with_reducible repeat (first | refine bN_ ?_ _ | refine bD_ ?_ | refine bA_ ?_ _)); exact BK168.out)) (below_size (by repeat (first | (with_reducible first | exact HB.out | apply aB_ | apply pN_ | apply dB_ | refine sB_ ?_ GE138.out | refine sB_ ?_ GE139.out | refine sB_ ?_ GE161.out | refine sB_ ?_ GE168.out) | exact HB.out))))
      have n6_ := Aside0.mk (bB_ (g := gb138) (o := .cells #[.string a0_0, .string a0_1, .string a0_2, .slice A0_3 l0_3.length c0_3] 35 (0, 0)) (by (with_reducible repeat (first | refine bN_ ?_ _ | refine bD_ ?_ | refine bA_ ?_ _)); exact BK138.out) hb)
      have n7_ := Aside0.mk (bB_ (g := gb139) (o := .cells #[.string a1_0, .string a1_1, .string a1_2, .slice A1_3 l1_3.length c1_3] 35 (0, 0)) (by (with_reducible repeat (first | refine bN_ ?_ _ | refine bD_ ?_ | refine bA_ ?_ _)); exact BK139.out) hb)
      have n8_ := Aside0.mk (bB_ (g := gb161) (o := .cells #[.string t155, .string t156, .string t157, .slice Ao81 t158.length co81] 40 (0, 0)) (by (with_reducible repeat (first | refine bN_ ?_ _ | refine bD_ ?_ | refine bA_ ?_ _)); exact BK161.out) hb)
      have n9_ := Aside0.mk (bB_ (g := gb168) (o := .cells #[.string t162, .string t163, .string t164, .slice Ao89 t165.length co89] 40 (0, 0)) (by (with_reducible repeat (first | refine bN_ ?_ _ | refine bD_ ?_ | refine bA_ ?_ _)); exact BK168.out) hb)
      have n10_ := Aside0.mk (below_step (by repeat (first | (with_reducible first | exact HB.out | apply aB_ | apply pN_ | apply dB_ | refine sB_ ?_ GE138.out | refine sB_ ?_ GE139.out | refine sB_ ?_ GE161.out | refine sB_ ?_ GE168.out) | exact HB.out)) hb)
      clear HO147
      clear HO153
      clear HO160
      clear HO167
      clear HO175
      clear BK138
      clear BK139
      clear BK161
      clear BK168
      clear HB
      have HO147 := n0_
      have HO153 := n1_
      have HO160 := n2_
      have HO167 := n3_
      have HO175 := n4_
      have HO182 := n5_
      have BK138 := n6_
      have BK139 := n7_
      have BK161 := n8_
      have BK168 := n9_
      have HB := n10_
      clear n0_ n1_ n2_ n3_ n4_ n5_ n6_ n7_ n8_ n9_ n10_
      (try clear hb)
      (try clear hb2)
      (try clear hk)
      (try clear hi)
      (try clear ho0)
      obtain ⟨Ao98, co98, eo98⟩ := Kd.R_slice HO182.out
      (first | subst eo98 | (injection eo98 with f1_ f2_ f3_; have f4_ := f1_.symm; have f5_ := f3_.symm; clear f1_ f2_ f3_; subst f4_; subst f5_))
      refine hK.out _ _ ⟨(bc_ BK168.out 0).trans rfl, (bc_ BK168.out 1).trans rfl, (bc_ BK168.out 2).trans rfl, (bc_ BK168.out 3).trans rfl, (bc_ BK139.out 0).trans rfl, (bc_ BK139.out 1).trans rfl, (bc_ BK139.out 2).trans rfl, (bc_ BK139.out 3).trans rfl⟩ (fun hHeld => ?_)
      clear hK K
      refine norm_ (a' := ?_) ?_ ?_
      rotate_left
      ·show Act.put _ (some 42) _ = _
       simp only [Act.put, List.setIfInBounds_toArray, List.set_cons_zero, List.set_cons_succ, i64_w, i32_w]
       rfl
      refine one_ (i := 3) (N := some 43) #[true, true, true, true, false] rfl rfl (by kernel_rfl) (by decide) (fun K hK => ?_)
      refine goes_ Try.func26 (by kernel_rfl) rfl #[.agg #[.string t162, .string t163, .string t164, .slice Ao89 t165.length co89], .agg #[.string t177, .string t178, .string t179, .slice Ao98 t180.length co98]] (by rfl) rfl rfl (by (try simp only [List.map_toArray, List.map_cons, List.map_nil]); first | done | rfl | (simp only [List.length_drop, List.length_take]; rfl)) ?_
      with_reducible refine (laws_eqNode.calls k t162 t163 t164 _ _ t165 t177 t178 t179 _ _ t180 true _ ?side1 ?side2 ?side3 ?side4 A60.out).mono ?_
      (case side1 => repeat (first | exact (Kd.R_reads' HO167.out).2.2 | (with_reducible refine Kd.C_alloc ?_ _) | (with_reducible refine Kd.C_drewN ?_ _) | (with_reducible refine Kd.C_drew ?_)))
      (case side2 => exact (Kd.R_reads' HO167.out).2.1)
      (case side3 => repeat (first | exact (Kd.R_reads' HO182.out).2.2 | (with_reducible refine Kd.C_alloc ?_ _) | (with_reducible refine Kd.C_drewN ?_ _) | (with_reducible refine Kd.C_drew ?_)))
      (case side4 => exact (Kd.R_reads' HO182.out).2.1)
      rintro e w99 ⟨rfl, hb⟩
      refine ⟨_, rfl, ?_⟩
      have n0_ := Aside0.mk (Kd.R_below (by (with_reducible repeat (first | apply rA_ | apply rN_ | apply rD_)); exact HO147.out) hb)
      have n1_ := Aside0.mk (Kd.R_below (by (with_reducible repeat (first | apply rA_ | apply rN_ | apply rD_)); exact HO153.out) hb)
      have n2_ := Aside0.mk (Kd.R_below (by (with_reducible repeat (first | apply rA_ | apply rN_ | apply rD_)); exact HO160.out) hb)
      have n3_ := Aside0.mk (Kd.R_below (by (with_reducible repeat (first | apply rA_ | apply rN_ | apply rD_)); exact HO167.out) hb)
      have n4_ := Aside0.mk (Kd.R_below (by (with_reducible repeat (first | apply rA_ | apply rN_ | apply rD_)); exact HO175.out) hb)
      have n5_ := Aside0.mk (Kd.R_below (by (with_reducible repeat (first | apply rA_ | apply rN_ | apply rD_)); exact HO182.out) hb)
      have n6_ := Aside0.mk (bB_ (g := gb138) (o := .cells #[.string a0_0, .string a0_1, .string a0_2, .slice A0_3 l0_3.length c0_3] 35 (0, 0)) (by (with_reducible repeat (first | refine bN_ ?_ _ | refine bD_ ?_ | refine bA_ ?_ _)); exact BK138.out) hb)
      have n7_ := Aside0.mk (bB_ (g := gb139) (o := .cells #[.string a1_0, .string a1_1, .string a1_2, .slice A1_3 l1_3.length c1_3] 35 (0, 0)) (by (with_reducible repeat (first | refine bN_ ?_ _ | refine bD_ ?_ | refine bA_ ?_ _)); exact BK139.out) hb)
      have n8_ := Aside0.mk (bB_ (g := gb161) (o := .cells #[.string t155, .string t156, .string t157, .slice Ao81 t158.length co81] 40 (0, 0)) (by (with_reducible repeat (first | refine bN_ ?_ _ | refine bD_ ?_ | refine bA_ ?_ _)); exact BK161.out) hb)
      have n9_ := Aside0.mk (bB_ (g := gb168) (o := .cells #[.string t162, .string t163, .string t164, .slice Ao89 t165.length co89] 40 (0, 0)) (by (with_reducible repeat (first | refine bN_ ?_ _ | refine bD_ ?_ | refine bA_ ?_ _)); exact BK168.out) hb)
      have n10_ := Aside0.mk (below_step (by repeat (first | (with_reducible first | exact HB.out | apply aB_ | apply pN_ | apply dB_ | refine sB_ ?_ GE138.out | refine sB_ ?_ GE139.out | refine sB_ ?_ GE161.out | refine sB_ ?_ GE168.out) | exact HB.out)) hb)
      clear HO147
      clear HO153
      clear HO160
      clear HO167
      clear HO175
      clear HO182
      clear BK138
      clear BK139
      clear BK161
      clear BK168
      clear HB
      have HO147 := n0_
      have HO153 := n1_
      have HO160 := n2_
      have HO167 := n3_
      have HO175 := n4_
      have HO182 := n5_
      have BK138 := n6_
      have BK139 := n7_
      have BK161 := n8_
      have BK168 := n9_
      have HB := n10_
      clear n0_ n1_ n2_ n3_ n4_ n5_ n6_ n7_ n8_ n9_ n10_
      (try clear hb)
      (try clear hb2)
      (try clear hk)
      (try clear hi)
      refine hK.out _ _ ⟨(bc_ BK168.out 0).trans rfl, (bc_ BK168.out 1).trans rfl, (bc_ BK168.out 2).trans rfl, (bc_ BK168.out 3).trans rfl, (bc_ BK139.out 0).trans rfl, (bc_ BK139.out 1).trans rfl, (bc_ BK139.out 2).trans rfl, (bc_ BK139.out 3).trans rfl⟩ (fun hHeld => ?_)
      clear hK K
      refine norm_ (a' := ?_) ?_ ?_
      rotate_left
      ·show Act.put _ (some 43) _ = _
       simp only [Act.put, List.setIfInBounds_toArray, List.set_cons_zero, List.set_cons_succ, i64_w, i32_w]
       rfl
      refine pure_ (i := 4) (N := some 44) (v := ?_) (a' := ?_) #[true, true, true, true, true] rfl rfl (by kernel_rfl) (fun _ _ _ h => h) (Or.inl ⟨by rfl, ?_⟩) ?_ ?_
      rotate_left
      ·intro w'
       go_simp
       with_reducible rfl
      rotate_left
      ·simp only [Act.put, List.setIfInBounds_toArray, List.set_cons_zero, List.set_cons_succ, i64_w, i32_w]
       rfl
      refine done_ (by kernel_rfl) ?_
      try go_wp2
      go_ret
      exact ⟨by first | rfl | (simp [errW_none, errW_some] <;> rfl) | (simp [*, errW_none, errW_some] <;> rfl), by repeat (first | (with_reducible first | exact HB.out | apply aB_ | apply pN_ | apply dB_ | refine sB_ ?_ GE138.out | refine sB_ ?_ GE139.out | refine sB_ ?_ GE161.out | refine sB_ ?_ GE168.out) | exact HB.out)⟩
     ·replace c61 := Bool.eq_false_iff.mpr c61
      subst c61
      have H1 : (some false) = some r := by rw [if_neg (show ¬ (false = true) by decide)] at H; exact H
      clear H
      have H := H1
      clear H1
      obtain rfl := Option.some.inj H
      go_enter Try.func5, Try.ntmps5
      try go_wp2_with (first | ((with_reducible refine gate_dst (N := 2) rfl ?_); refine box_event ?hg (N := 2) ?hd (cs := #[.string a0_0, .string a0_1, .string a0_2, .slice A0_3 l0_3.length c0_3]) (t := 35) ?hr ?_; (case hd => rfl); (case hg => rfl); (case hr => first | (go_simp; done) | (go_simp; rfl)); intro gb138 hg w100 hbox hb; have n0_ := Aside0.mk (below_step (by repeat (first | (with_reducible first | exact HB.out | apply aB_ | apply pN_ | apply dB_) | exact HB.out)) hb); have n1_ := Aside0.mk (hbox); have n2_ := Aside0.mk ((by rw [hg]; exact (below_size (by repeat (first | (with_reducible first | exact HB.out | apply aB_ | apply pN_ | apply dB_) | exact HB.out))) : w.heap.size ≤ gb138)); have n3_ := Aside0.mk ((by rw [hg]; exact (below_size (by repeat (first | (with_reducible first | exact HB.out | apply aB_ | apply pN_ | apply dB_) | exact HB.out))) : w.heap.size ≤ gb138)); clear HB; have HB := n0_; have BK138 := n1_; have GW138 := n2_; have GE138 := n3_; clear n0_ n1_ n2_ n3_; clear hb hbox hg) | ((with_reducible refine gate_dst (N := 3) rfl ?_); refine box_event ?hg (N := 3) ?hd (cs := #[.string a1_0, .string a1_1, .string a1_2, .slice A1_3 l1_3.length c1_3]) (t := 35) ?hr ?_; (case hd => rfl); (case hg => rfl); (case hr => first | (go_simp; done) | (go_simp; rfl)); intro gb139 hg w101 hbox hb; have n0_ := Aside0.mk (bB_ (g := gb138) (o := .cells #[.string a0_0, .string a0_1, .string a0_2, .slice A0_3 l0_3.length c0_3] 35 (0, 0)) (by (with_reducible repeat (first | refine bN_ ?_ _ | refine bD_ ?_ | refine bA_ ?_ _)); exact BK138.out) hb); have n1_ := Aside0.mk (below_step (by repeat (first | (with_reducible first | exact HB.out | apply aB_ | apply pN_ | apply dB_ | refine sB_ ?_ GE138.out) | exact HB.out)) hb); have n2_ := Aside0.mk (hbox); have n3_ := Aside0.mk ((by rw [hg]; exact (below_size (by repeat (first | (with_reducible first | exact HB.out | apply aB_ | apply pN_ | apply dB_ | refine sB_ ?_ GE138.out) | exact HB.out))) : w.heap.size ≤ gb139)); have n4_ := Aside0.mk ((by rw [hg]; exact (below_size (by repeat (first | (with_reducible first | exact HB.out | apply aB_ | apply pN_ | apply dB_ | refine sB_ ?_ GE138.out) | exact HB.out))) : w.heap.size ≤ gb139)); have n5_ := Aside0.mk ((by rw [hg]; exact Nat.ne_of_lt (blk_lt (g := gb138) (o := .cells #[.string a0_0, .string a0_1, .string a0_2, .slice A0_3 l0_3.length c0_3] 35 (0, 0)) (by (with_reducible repeat (first | refine bN_ ?_ _ | refine bD_ ?_ | refine bA_ ?_ _)); exact BK138.out)) : gb138 ≠ gb139)); have n6_ := Aside0.mk ((by rw [hg]; exact Nat.ne_of_gt (blk_lt (g := gb138) (o := .cells #[.string a0_0, .string a0_1, .string a0_2, .slice A0_3 l0_3.length c0_3] 35 (0, 0)) (by (with_reducible repeat (first | refine bN_ ?_ _ | refine bD_ ?_ | refine bA_ ?_ _)); exact BK138.out)) : gb139 ≠ gb138)); clear BK138; clear HB; have BK138 := n0_; have HB := n1_; have BK139 := n2_; have GW139 := n3_; have GE139 := n4_; have NB138_139 := n5_; have NB139_138 := n6_; clear n0_ n1_ n2_ n3_ n4_ n5_ n6_; clear hb hbox hg; have hnb102 := NB138_139.out; have hnc102 := NB139_138.out; have hcz103_0 : w101.cell? ⟨gb138, 0, none⟩ = some (.string a0_0) := (bc_ BK138.out 0).trans rfl; have hcz103_1 : w101.cell? ⟨gb138, 1, none⟩ = some (.string a0_1) := (bc_ BK138.out 1).trans rfl; have hcz103_2 : w101.cell? ⟨gb138, 2, none⟩ = some (.string a0_2) := (bc_ BK138.out 2).trans rfl; have hcz103_3 : w101.cell? ⟨gb138, 3, none⟩ = some (.slice A0_3 l0_3.length c0_3) := (bc_ BK138.out 3).trans rfl; have hfz103_0 := bF_ BK138.out 0; have hfz103_1 := bF_ BK138.out 1; have hfz103_2 := bF_ BK138.out 2; have hfz103_3 := bF_ BK138.out 3) | ((with_reducible refine gate_callee (f := 22) rfl ?_); refine goesL_ (some 12) rfl rfl Try.func22 (by kernel_rfl) rfl #[.agg #[.string a0_0, .string a0_1, .string a0_2, .slice A0_3 l0_3.length c0_3], .int .i64 1048576] rfl (by (try simp only [List.map_toArray, List.map_cons, List.map_nil]); first | done | rfl | (simp only [List.length_drop, List.length_take]; rfl)) ?_; (with_reducible refine (laws_szNode.calls k a0_0 a0_1 a0_2 _ _ l0_3 1048576 t140 _ ?side1 ?side2 A3.out).mono ?_); (case side1 => repeat (first | exact (Kd.C_below HR0_3.out HB.out) | (with_reducible refine Kd.C_alloc ?_ _) | (with_reducible refine Kd.C_drewN ?_ _) | (with_reducible refine Kd.C_drew ?_))); (case side2 => exact HC0_3.out); rintro e w104 ⟨rfl, hb⟩; refine ⟨_, rfl, ?_⟩; have n0_ := Aside0.mk (bB_ (g := gb138) (o := .cells #[.string a0_0, .string a0_1, .string a0_2, .slice A0_3 l0_3.length c0_3] 35 (0, 0)) (by (with_reducible repeat (first | refine bN_ ?_ _ | refine bD_ ?_ | refine bA_ ?_ _)); exact BK138.out) hb); have n1_ := Aside0.mk (bB_ (g := gb139) (o := .cells #[.string a1_0, .string a1_1, .string a1_2, .slice A1_3 l1_3.length c1_3] 35 (0, 0)) (by (with_reducible repeat (first | refine bN_ ?_ _ | refine bD_ ?_ | refine bA_ ?_ _)); exact BK139.out) hb); have n2_ := Aside0.mk (below_step (by repeat (first | (with_reducible first | exact HB.out | apply aB_ | apply pN_ | apply dB_ | refine sB_ ?_ GE138.out | refine sB_ ?_ GE139.out) | exact HB.out)) hb); clear BK138; clear BK139; clear HB; have BK138 := n0_; have BK139 := n1_; have HB := n2_; clear n0_ n1_ n2_; (try clear hb); (try clear hb2); (try clear hk); (try clear hi); have hcz105_0 : w104.cell? ⟨gb139, 0, none⟩ = some (.string a1_0) := (bc_ BK139.out 0).trans rfl; have hcz105_1 : w104.cell? ⟨gb139, 1, none⟩ = some (.string a1_1) := (bc_ BK139.out 1).trans rfl; have hcz105_2 : w104.cell? ⟨gb139, 2, none⟩ = some (.string a1_2) := (bc_ BK139.out 2).trans rfl; have hcz105_3 : w104.cell? ⟨gb139, 3, none⟩ = some (.slice A1_3 l1_3.length c1_3) := (bc_ BK139.out 3).trans rfl; have hfz105_0 := bF_ BK139.out 0; have hfz105_1 := bF_ BK139.out 1; have hfz105_2 := bF_ BK139.out 2; have hfz105_3 := bF_ BK139.out 3) | ((with_reducible refine gate_callee (f := 22) rfl ?_); refine goesL_ (some 17) rfl rfl Try.func22 (by kernel_rfl) rfl #[.agg #[.string a1_0, .string a1_1, .string a1_2, .slice A1_3 l1_3.length c1_3], .int .i64 t140] rfl (by (try simp only [List.map_toArray, List.map_cons, List.map_nil]); first | done | rfl | (simp only [List.length_drop, List.length_take]; rfl)) ?_; (with_reducible refine (laws_szNode.calls k a1_0 a1_1 a1_2 _ _ l1_3 t140 t141 _ ?side1 ?side2 A10.out).mono ?_); (case side1 => repeat (first | exact (Kd.C_below HR1_3.out HB.out) | (with_reducible refine Kd.C_alloc ?_ _) | (with_reducible refine Kd.C_drewN ?_ _) | (with_reducible refine Kd.C_drew ?_))); (case side2 => exact HC1_3.out); rintro e w106 ⟨rfl, hb⟩; refine ⟨_, rfl, ?_⟩; have n0_ := Aside0.mk (bB_ (g := gb138) (o := .cells #[.string a0_0, .string a0_1, .string a0_2, .slice A0_3 l0_3.length c0_3] 35 (0, 0)) (by (with_reducible repeat (first | refine bN_ ?_ _ | refine bD_ ?_ | refine bA_ ?_ _)); exact BK138.out) hb); have n1_ := Aside0.mk (bB_ (g := gb139) (o := .cells #[.string a1_0, .string a1_1, .string a1_2, .slice A1_3 l1_3.length c1_3] 35 (0, 0)) (by (with_reducible repeat (first | refine bN_ ?_ _ | refine bD_ ?_ | refine bA_ ?_ _)); exact BK139.out) hb); have n2_ := Aside0.mk (below_step (by repeat (first | (with_reducible first | exact HB.out | apply aB_ | apply pN_ | apply dB_ | refine sB_ ?_ GE138.out | refine sB_ ?_ GE139.out) | exact HB.out)) hb); clear BK138; clear BK139; clear HB; have BK138 := n0_; have BK139 := n1_; have HB := n2_; clear n0_ n1_ n2_; (try clear hb); (try clear hb2); (try clear hk); (try clear hi)))
      have n0_ := Aside0.mk (bD_ BK138.out)
      have n1_ := Aside0.mk (bD_ BK139.out)
      have n2_ := Aside0.mk (dB_ HB.out)
      clear BK138
      clear BK139
      clear HB
      have BK138 := n0_
      have BK139 := n1_
      have HB := n2_
      clear n0_ n1_ n2_
      refine start_ (n := 6) (S := fun w' => w'.cell? ⟨gb138, 0, none⟩ = some (.string a0_0) ∧ w'.cell? ⟨gb138, 1, none⟩ = some (.string a0_1) ∧ w'.cell? ⟨gb138, 2, none⟩ = some (.string a0_2) ∧ w'.cell? ⟨gb138, 3, none⟩ = some (.slice A0_3 l0_3.length c0_3) ∧ w'.cell? ⟨gb139, 0, none⟩ = some (.string a1_0) ∧ w'.cell? ⟨gb139, 1, none⟩ = some (.string a1_1) ∧ w'.cell? ⟨gb139, 2, none⟩ = some (.string a1_2) ∧ w'.cell? ⟨gb139, 3, none⟩ = some (.slice A1_3 l1_3.length c1_3)) (ds := []) #[false, false, false, false, false, false] (by kernel_rfl) rfl rfl ⟨(bc_ BK138.out 0).trans rfl, (bc_ BK138.out 1).trans rfl, (bc_ BK138.out 2).trans rfl, (bc_ BK138.out 3).trans rfl, (bc_ BK139.out 0).trans rfl, (bc_ BK139.out 1).trans rfl, (bc_ BK139.out 2).trans rfl, (bc_ BK139.out 3).trans rfl⟩ (fun hHeld => ?_)
      generalize w106.drew = w107 at BK138 BK139 HB hHeld ⊢
      refine take_ (i := 0) (N := some 20) (v := ?_) (a' := ?_) #[true, false, false, false, false, false] rfl rfl (by kernel_rfl) (fun _ _ _ h => h) (Or.inl ⟨by rfl, ?_⟩) hHeld ?_ ?_
      rotate_left
      ·rintro w' ⟨s0, s1, s2, s3, s4, s5, s6, s7⟩
       go_simp
       with_reducible rfl
      rotate_left
      ·simp only [Act.put, List.setIfInBounds_toArray, List.set_cons_zero, List.set_cons_succ, i64_w, i32_w]
       rfl
      refine take_ (i := 2) (N := some 22) (v := ?_) (a' := ?_) #[true, false, true, false, false, false] rfl rfl (by kernel_rfl) (fun _ _ _ h => h) (Or.inl ⟨by rfl, ?_⟩) hHeld ?_ ?_
      rotate_left
      ·rintro w' ⟨s0, s1, s2, s3, s4, s5, s6, s7⟩
       go_simp
       with_reducible rfl
      rotate_left
      ·simp only [Act.put, List.setIfInBounds_toArray, List.set_cons_zero, List.set_cons_succ, i64_w, i32_w]
       rfl
      refine one_ (i := 1) (N := some 21) #[true, true, true, false, false, false] rfl rfl (by kernel_rfl) (by decide) (fun K hK => ?_)
      refine goes_ Try.func24 (by kernel_rfl) rfl #[.agg #[.string a0_0, .string a0_1, .string a0_2, .slice A0_3 l0_3.length c0_3]] (by rfl) rfl rfl (by (try simp only [List.map_toArray, List.map_cons, List.map_nil]); first | done | rfl | (simp only [List.length_drop, List.length_take]; rfl)) ?_
      with_reducible refine (laws_toNode.calls k a0_0 a0_1 a0_2 _ _ l0_3 t142 t143 t144 t145 _ ?side1 ?side2 A19.out).mono ?_
      (case side1 => repeat (first | exact (Kd.C_below HR0_3.out HB.out) | (with_reducible refine Kd.C_alloc ?_ _) | (with_reducible refine Kd.C_drewN ?_ _) | (with_reducible refine Kd.C_drew ?_)))
      (case side2 => exact HC0_3.out)
      rintro e w108 ⟨v146, rfl, ho0, hb⟩
      refine ⟨_, rfl, ?_⟩
      have n0_ := Aside0.mk (Kd.R_lower ho0 (below_size (by repeat (first | (with_reducible first | exact HB.out | apply aB_ | apply pN_ | apply dB_ | refine sB_ ?_ GE138.out | refine sB_ ?_ GE139.out) | exact HB.out))))
      have n1_ := Aside0.mk (bB_ (g := gb138) (o := .cells #[.string a0_0, .string a0_1, .string a0_2, .slice A0_3 l0_3.length c0_3] 35 (0, 0)) (by (with_reducible repeat (first | refine bN_ ?_ _ | refine bD_ ?_ | refine bA_ ?_ _)); exact BK138.out) hb)
      have n2_ := Aside0.mk (bB_ (g := gb139) (o := .cells #[.string a1_0, .string a1_1, .string a1_2, .slice A1_3 l1_3.length c1_3] 35 (0, 0)) (by (with_reducible repeat (first | refine bN_ ?_ _ | refine bD_ ?_ | refine bA_ ?_ _)); exact BK139.out) hb)
      have n3_ := Aside0.mk (below_step (by repeat (first | (with_reducible first | exact HB.out | apply aB_ | apply pN_ | apply dB_ | refine sB_ ?_ GE138.out | refine sB_ ?_ GE139.out) | exact HB.out)) hb)
      clear BK138
      clear BK139
      clear HB
      have HO147 := n0_
      have BK138 := n1_
      have BK139 := n2_
      have HB := n3_
      clear n0_ n1_ n2_ n3_
      (try clear hb)
      (try clear hb2)
      (try clear hk)
      (try clear hi)
      (try clear ho0)
      refine hK.out _ _ ⟨(bc_ BK138.out 0).trans rfl, (bc_ BK138.out 1).trans rfl, (bc_ BK138.out 2).trans rfl, (bc_ BK138.out 3).trans rfl, (bc_ BK139.out 0).trans rfl, (bc_ BK139.out 1).trans rfl, (bc_ BK139.out 2).trans rfl, (bc_ BK139.out 3).trans rfl⟩ (fun hHeld => ?_)
      clear hK K
      refine norm_ (a' := ?_) ?_ ?_
      rotate_left
      ·show Act.put _ (some 21) _ = _
       simp only [Act.put, List.setIfInBounds_toArray, List.set_cons_zero, List.set_cons_succ, i64_w, i32_w]
       rfl
      refine one_ (i := 3) (N := some 23) #[true, true, true, true, false, false] rfl rfl (by kernel_rfl) (by decide) (fun K hK => ?_)
      refine goes_ Try.func24 (by kernel_rfl) rfl #[.agg #[.string a1_0, .string a1_1, .string a1_2, .slice A1_3 l1_3.length c1_3]] (by rfl) rfl rfl (by (try simp only [List.map_toArray, List.map_cons, List.map_nil]); first | done | rfl | (simp only [List.length_drop, List.length_take]; rfl)) ?_
      with_reducible refine (laws_toNode.calls k a1_0 a1_1 a1_2 _ _ l1_3 t148 t149 t150 t151 _ ?side1 ?side2 A20.out).mono ?_
      (case side1 => repeat (first | exact (Kd.C_below HR1_3.out HB.out) | (with_reducible refine Kd.C_alloc ?_ _) | (with_reducible refine Kd.C_drewN ?_ _) | (with_reducible refine Kd.C_drew ?_)))
      (case side2 => exact HC1_3.out)
      rintro e w109 ⟨v152, rfl, ho0, hb⟩
      refine ⟨_, rfl, ?_⟩
      have n0_ := Aside0.mk (Kd.R_elder' (by (with_reducible repeat (first | apply rA_ | apply rN_ | apply rD_)); exact HO147.out) (Kd.R_base ho0) hb)
      have n1_ := Aside0.mk (Kd.R_lower (Kd.R_new' ho0 (Kd.R_lt (by (with_reducible repeat (first | apply rA_ | apply rN_ | apply rD_)); exact HO147.out))) (below_size (by repeat (first | (with_reducible first | exact HB.out | apply aB_ | apply pN_ | apply dB_ | refine sB_ ?_ GE138.out | refine sB_ ?_ GE139.out) | exact HB.out))))
      have n2_ := Aside0.mk (bB_ (g := gb138) (o := .cells #[.string a0_0, .string a0_1, .string a0_2, .slice A0_3 l0_3.length c0_3] 35 (0, 0)) (by (with_reducible repeat (first | refine bN_ ?_ _ | refine bD_ ?_ | refine bA_ ?_ _)); exact BK138.out) hb)
      have n3_ := Aside0.mk (bB_ (g := gb139) (o := .cells #[.string a1_0, .string a1_1, .string a1_2, .slice A1_3 l1_3.length c1_3] 35 (0, 0)) (by (with_reducible repeat (first | refine bN_ ?_ _ | refine bD_ ?_ | refine bA_ ?_ _)); exact BK139.out) hb)
      have n4_ := Aside0.mk (below_step (by repeat (first | (with_reducible first | exact HB.out | apply aB_ | apply pN_ | apply dB_ | refine sB_ ?_ GE138.out | refine sB_ ?_ GE139.out) | exact HB.out)) hb)
      clear HO147
      clear BK138
      clear BK139
      clear HB
      have HO147 := n0_
      have HO153 := n1_
      have BK138 := n2_
      have BK139 := n3_
      have HB := n4_
      clear n0_ n1_ n2_ n3_ n4_
      (try clear hb)
      (try clear hb2)
      (try clear hk)
      (try clear hi)
      (try clear ho0)
      obtain ⟨Ao110, co110, eo110⟩ := Kd.R_slice HO147.out
      (first | subst eo110 | (injection eo110 with f1_ f2_ f3_; have f4_ := f1_.symm; have f5_ := f3_.symm; clear f1_ f2_ f3_; subst f4_; subst f5_))
      obtain ⟨Ao111, co111, eo111⟩ := Kd.R_slice HO153.out
      (first | subst eo111 | (injection eo111 with f1_ f2_ f3_; have f4_ := f1_.symm; have f5_ := f3_.symm; clear f1_ f2_ f3_; subst f4_; subst f5_))
      refine hK.out _ _ ⟨(bc_ BK138.out 0).trans rfl, (bc_ BK138.out 1).trans rfl, (bc_ BK138.out 2).trans rfl, (bc_ BK138.out 3).trans rfl, (bc_ BK139.out 0).trans rfl, (bc_ BK139.out 1).trans rfl, (bc_ BK139.out 2).trans rfl, (bc_ BK139.out 3).trans rfl⟩ (fun hHeld => ?_)
      clear hK K
      refine norm_ (a' := ?_) ?_ ?_
      rotate_left
      ·show Act.put _ (some 23) _ = _
       simp only [Act.put, List.setIfInBounds_toArray, List.set_cons_zero, List.set_cons_succ, i64_w, i32_w]
       rfl
      refine one_ (i := 4) (N := some 24) #[true, true, true, true, true, false] rfl rfl (by kernel_rfl) (by decide) (fun K hK => ?_)
      refine goes_ Try.func23 (by kernel_rfl) rfl #[.agg #[.string t142, .string t143, .string t144, .slice Ao110 t145.length co110], .agg #[.string t148, .string t149, .string t150, .slice Ao111 t151.length co111]] (by rfl) rfl rfl (by (try simp only [List.map_toArray, List.map_cons, List.map_nil]); first | done | rfl | (simp only [List.length_drop, List.length_take]; rfl)) ?_
      with_reducible refine (spec_SameNode.calls k t142 t143 t144 _ _ t145 t148 t149 t150 _ _ t151 t154 _ ?side1 ?side2 ?side3 ?side4 A21.out).mono ?_
      (case side1 => repeat (first | exact (Kd.R_reads' HO147.out).2.2 | (with_reducible refine Kd.C_alloc ?_ _) | (with_reducible refine Kd.C_drewN ?_ _) | (with_reducible refine Kd.C_drew ?_)))
      (case side2 => exact (Kd.R_reads' HO147.out).2.1)
      (case side3 => repeat (first | exact (Kd.R_reads' HO153.out).2.2 | (with_reducible refine Kd.C_alloc ?_ _) | (with_reducible refine Kd.C_drewN ?_ _) | (with_reducible refine Kd.C_drew ?_)))
      (case side4 => exact (Kd.R_reads' HO153.out).2.1)
      rintro e w112 ⟨rfl, hb⟩
      refine ⟨_, rfl, ?_⟩
      have n0_ := Aside0.mk (Kd.R_below (by (with_reducible repeat (first | apply rA_ | apply rN_ | apply rD_)); exact HO147.out) hb)
      have n1_ := Aside0.mk (Kd.R_below (by (with_reducible repeat (first | apply rA_ | apply rN_ | apply rD_)); exact HO153.out) hb)
      have n2_ := Aside0.mk (bB_ (g := gb138) (o := .cells #[.string a0_0, .string a0_1, .string a0_2, .slice A0_3 l0_3.length c0_3] 35 (0, 0)) (by (with_reducible repeat (first | refine bN_ ?_ _ | refine bD_ ?_ | refine bA_ ?_ _)); exact BK138.out) hb)
      have n3_ := Aside0.mk (bB_ (g := gb139) (o := .cells #[.string a1_0, .string a1_1, .string a1_2, .slice A1_3 l1_3.length c1_3] 35 (0, 0)) (by (with_reducible repeat (first | refine bN_ ?_ _ | refine bD_ ?_ | refine bA_ ?_ _)); exact BK139.out) hb)
      have n4_ := Aside0.mk (below_step (by repeat (first | (with_reducible first | exact HB.out | apply aB_ | apply pN_ | apply dB_ | refine sB_ ?_ GE138.out | refine sB_ ?_ GE139.out) | exact HB.out)) hb)
      clear HO147
      clear HO153
      clear BK138
      clear BK139
      clear HB
      have HO147 := n0_
      have HO153 := n1_
      have BK138 := n2_
      have BK139 := n3_
      have HB := n4_
      clear n0_ n1_ n2_ n3_ n4_
      (try clear hb)
      (try clear hb2)
      (try clear hk)
      (try clear hi)
      refine hK.out _ _ ⟨(bc_ BK138.out 0).trans rfl, (bc_ BK138.out 1).trans rfl, (bc_ BK138.out 2).trans rfl, (bc_ BK138.out 3).trans rfl, (bc_ BK139.out 0).trans rfl, (bc_ BK139.out 1).trans rfl, (bc_ BK139.out 2).trans rfl, (bc_ BK139.out 3).trans rfl⟩ (fun hHeld => ?_)
      clear hK K
      refine norm_ (a' := ?_) ?_ ?_
      rotate_left
      ·show Act.put _ (some 24) _ = _
       simp only [Act.put, List.setIfInBounds_toArray, List.set_cons_zero, List.set_cons_succ, i64_w, i32_w]
       rfl
      refine pure_ (i := 5) (N := some 6) (v := ?_) (a' := ?_) #[true, true, true, true, true, true] rfl rfl (by kernel_rfl) (fun _ _ _ h => h) (Or.inl ⟨by rfl, ?_⟩) ?_ ?_
      rotate_left
      ·intro w'
       go_simp
       with_reducible rfl
      rotate_left
      ·simp only [Act.put, List.setIfInBounds_toArray, List.set_cons_zero, List.set_cons_succ, i64_w, i32_w]
       rfl
      refine done_ (by kernel_rfl) ?_
      have hcz113_0 : w112.cell? ⟨gb138, 0, none⟩ = some (.string a0_0) := (bc_ BK138.out 0).trans rfl
      have hcz113_1 : w112.cell? ⟨gb138, 1, none⟩ = some (.string a0_1) := (bc_ BK138.out 1).trans rfl
      have hcz113_2 : w112.cell? ⟨gb138, 2, none⟩ = some (.string a0_2) := (bc_ BK138.out 2).trans rfl
      have hcz113_3 : w112.cell? ⟨gb138, 3, none⟩ = some (.slice A0_3 l0_3.length c0_3) := (bc_ BK138.out 3).trans rfl
      have hfz113_0 := bF_ BK138.out 0
      have hfz113_1 := bF_ BK138.out 1
      have hfz113_2 := bF_ BK138.out 2
      have hfz113_3 := bF_ BK138.out 3
      try go_wp2_with (first | ((with_reducible refine gate_callee (f := 24) rfl ?_); refine goesL_ (some 26) rfl rfl Try.func24 (by kernel_rfl) rfl #[.agg #[.string a0_0, .string a0_1, .string a0_2, .slice A0_3 l0_3.length c0_3]] rfl (by (try simp only [List.map_toArray, List.map_cons, List.map_nil]); first | done | rfl | (simp only [List.length_drop, List.length_take]; rfl)) ?_; (with_reducible refine (laws_toNode.calls k a0_0 a0_1 a0_2 _ _ l0_3 t155 t156 t157 t158 _ ?side1 ?side2 A22.out).mono ?_); (case side1 => repeat (first | exact (Kd.C_below HR0_3.out HB.out) | (with_reducible refine Kd.C_alloc ?_ _) | (with_reducible refine Kd.C_drewN ?_ _) | (with_reducible refine Kd.C_drew ?_))); (case side2 => exact HC0_3.out); rintro e w114 ⟨v159, rfl, ho0, hb⟩; refine ⟨_, rfl, ?_⟩; have n0_ := Aside0.mk (Kd.R_elder' (by (with_reducible repeat (first | apply rA_ | apply rN_ | apply rD_)); exact HO147.out) (Kd.R_base ho0) hb); have n1_ := Aside0.mk (Kd.R_elder' (by (with_reducible repeat (first | apply rA_ | apply rN_ | apply rD_)); exact HO153.out) (Kd.R_base ho0) hb); have n2_ := Aside0.mk (Kd.R_lower (Kd.R_new' (Kd.R_new' ho0 (Kd.R_lt (by (with_reducible repeat (first | apply rA_ | apply rN_ | apply rD_)); exact HO147.out))) (Kd.R_lt (by (with_reducible repeat (first | apply rA_ | apply rN_ | apply rD_)); exact HO153.out))) (below_size (by repeat (first | (with_reducible first | exact HB.out | apply aB_ | apply pN_ | apply dB_ | refine sB_ ?_ GE138.out | refine sB_ ?_ GE139.out) | exact HB.out)))); have n3_ := Aside0.mk (bB_ (g := gb138) (o := .cells #[.string a0_0, .string a0_1, .string a0_2, .slice A0_3 l0_3.length c0_3] 35 (0, 0)) (by (with_reducible repeat (first | refine bN_ ?_ _ | refine bD_ ?_ | refine bA_ ?_ _)); exact BK138.out) hb); have n4_ := Aside0.mk (bB_ (g := gb139) (o := .cells #[.string a1_0, .string a1_1, .string a1_2, .slice A1_3 l1_3.length c1_3] 35 (0, 0)) (by (with_reducible repeat (first | refine bN_ ?_ _ | refine bD_ ?_ | refine bA_ ?_ _)); exact BK139.out) hb); have n5_ := Aside0.mk (below_step (by repeat (first | (with_reducible first | exact HB.out | apply aB_ | apply pN_ | apply dB_ | refine sB_ ?_ GE138.out | refine sB_ ?_ GE139.out) | exact HB.out)) hb); clear HO147; clear HO153; clear BK138; clear BK139; clear HB; have HO147 := n0_; have HO153 := n1_; have HO160 := n2_; have BK138 := n3_; have BK139 := n4_; have HB := n5_; clear n0_ n1_ n2_ n3_ n4_ n5_; (try clear hb); (try clear hb2); (try clear hk); (try clear hi); (try clear ho0)) | ((with_reducible refine gate_dst (N := 7) rfl ?_); refine box_event ?hg (N := 7) ?hd (cs := #[.string (⟨#[]⟩ : ByteArray), .string (⟨#[]⟩ : ByteArray), .string (⟨#[]⟩ : ByteArray), .slice none 0 0]) (t := 40) ?hr ?_; (case hd => rfl); (case hg => rfl); (case hr => first | (go_simp; done) | (go_simp; rfl)); intro gb161 hg w115 hbox hb; have n0_ := Aside0.mk (Kd.R_below (Kd.R_elderB (by (with_reducible repeat (first | apply rA_ | apply rN_ | apply rD_)); exact HO147.out) gb161 (Nat.le_of_eq hg.symm)) hb); have n1_ := Aside0.mk (Kd.R_below (Kd.R_elderB (by (with_reducible repeat (first | apply rA_ | apply rN_ | apply rD_)); exact HO153.out) gb161 (Nat.le_of_eq hg.symm)) hb); have n2_ := Aside0.mk (Kd.R_below (Kd.R_elderB (by (with_reducible repeat (first | apply rA_ | apply rN_ | apply rD_)); exact HO160.out) gb161 (Nat.le_of_eq hg.symm)) hb); have n3_ := Aside0.mk (bB_ (g := gb138) (o := .cells #[.string a0_0, .string a0_1, .string a0_2, .slice A0_3 l0_3.length c0_3] 35 (0, 0)) (by (with_reducible repeat (first | refine bN_ ?_ _ | refine bD_ ?_ | refine bA_ ?_ _)); exact BK138.out) hb); have n4_ := Aside0.mk (bB_ (g := gb139) (o := .cells #[.string a1_0, .string a1_1, .string a1_2, .slice A1_3 l1_3.length c1_3] 35 (0, 0)) (by (with_reducible repeat (first | refine bN_ ?_ _ | refine bD_ ?_ | refine bA_ ?_ _)); exact BK139.out) hb); have n5_ := Aside0.mk (below_step (by repeat (first | (with_reducible first | exact HB.out | apply aB_ | apply pN_ | apply dB_ | refine sB_ ?_ GE138.out | refine sB_ ?_ GE139.out) | exact HB.out)) hb); have n6_ := Aside0.mk (hbox); have n7_ := Aside0.mk ((by rw [hg]; exact (below_size (by repeat (first | (with_reducible first | exact HB.out | apply aB_ | apply pN_ | apply dB_ | refine sB_ ?_ GE138.out | refine sB_ ?_ GE139.out) | exact HB.out))) : w.heap.size ≤ gb161)); have n8_ := Aside0.mk ((by rw [hg]; exact (below_size (by repeat (first | (with_reducible first | exact HB.out | apply aB_ | apply pN_ | apply dB_ | refine sB_ ?_ GE138.out | refine sB_ ?_ GE139.out) | exact HB.out))) : w.heap.size ≤ gb161)); have n9_ := Aside0.mk ((by rw [hg]; exact Nat.ne_of_lt (blk_lt (g := gb138) (o := .cells #[.string a0_0, .string a0_1, .string a0_2, .slice A0_3 l0_3.length c0_3] 35 (0, 0)) (by (with_reducible repeat (first | refine bN_ ?_ _ | refine bD_ ?_ | refine bA_ ?_ _)); exact BK138.out)) : gb138 ≠ gb161)); have n10_ := Aside0.mk ((by rw [hg]; exact Nat.ne_of_gt (blk_lt (g := gb138) (o := .cells #[.string a0_0, .string a0_1, .string a0_2, .slice A0_3 l0_3.length c0_3] 35 (0, 0)) (by (with_reducible repeat (first | refine bN_ ?_ _ | refine bD_ ?_ | refine bA_ ?_ _)); exact BK138.out)) : gb161 ≠ gb138)); have n11_ := Aside0.mk ((by rw [hg]; exact Nat.ne_of_lt (blk_lt (g := gb139) (o := .cells #[.string a1_0, .string a1_1, .string a1_2, .slice A1_3 l1_3.length c1_3] 35 (0, 0)) (by (with_reducible repeat (first | refine bN_ ?_ _ | refine bD_ ?_ | refine bA_ ?_ _)); exact BK139.out)) : gb139 ≠ gb161)); have n12_ := Aside0.mk ((by rw [hg]; exact Nat.ne_of_gt (blk_lt (g := gb139) (o := .cells #[.string a1_0, .string a1_1, .string a1_2, .slice A1_3 l1_3.length c1_3] 35 (0, 0)) (by (with_reducible repeat (first | refine bN_ ?_ _ | refine bD_ ?_ | refine bA_ ?_ _)); exact BK139.out)) : gb161 ≠ gb139)); clear HO147; clear HO153; clear HO160; clear BK138; clear BK139; clear HB; have HO147 := n0_; have HO153 := n1_; have HO160 := n2_; have BK138 := n3_; have BK139 := n4_; have HB := n5_; have BK161 := n6_; have GW161 := n7_; have GE161 := n8_; have NB138_161 := n9_; have NB161_138 := n10_; have NB139_161 := n11_; have NB161_139 := n12_; clear n0_ n1_ n2_ n3_ n4_ n5_ n6_ n7_ n8_ n9_ n10_ n11_ n12_; clear hb hbox hg; have hnb116 := NB161_138.out; have hnc116 := NB138_161.out; have hnb117 := NB161_139.out; have hnc117 := NB139_161.out; have hcz118_0 : w115.cell? ⟨gb161, 0, none⟩ = some (.string (⟨#[]⟩ : ByteArray)) := (bc_ BK161.out 0).trans rfl; have hcz118_1 : w115.cell? ⟨gb161, 1, none⟩ = some (.string (⟨#[]⟩ : ByteArray)) := (bc_ BK161.out 1).trans rfl; have hcz118_2 : w115.cell? ⟨gb161, 2, none⟩ = some (.string (⟨#[]⟩ : ByteArray)) := (bc_ BK161.out 2).trans rfl; have hcz118_3 : w115.cell? ⟨gb161, 3, none⟩ = some (.slice none 0 0) := (bc_ BK161.out 3).trans rfl; have hfz118_0 := bF_ BK161.out 0; have hfz118_1 := bF_ BK161.out 1; have hfz118_2 := bF_ BK161.out 2; have hfz118_3 := bF_ BK161.out 3; obtain ⟨Ao119, co119, eo119⟩ := Kd.R_slice HO160.out; subst eo119; have hcz120_0 : w115.cell? ⟨gb139, 0, none⟩ = some (.string a1_0) := (bc_ BK139.out 0).trans rfl; have hcz120_1 : w115.cell? ⟨gb139, 1, none⟩ = some (.string a1_1) := (bc_ BK139.out 1).trans rfl; have hcz120_2 : w115.cell? ⟨gb139, 2, none⟩ = some (.string a1_2) := (bc_ BK139.out 2).trans rfl; have hcz120_3 : w115.cell? ⟨gb139, 3, none⟩ = some (.slice A1_3 l1_3.length c1_3) := (bc_ BK139.out 3).trans rfl; have hfz120_0 := bF_ BK139.out 0; have hfz120_1 := bF_ BK139.out 1; have hfz120_2 := bF_ BK139.out 2; have hfz120_3 := bF_ BK139.out 3) | ((with_reducible refine gate_callee (f := 24) rfl ?_); refine goesL_ (some 28) rfl rfl Try.func24 (by kernel_rfl) rfl #[.agg #[.string a1_0, .string a1_1, .string a1_2, .slice A1_3 l1_3.length c1_3]] rfl (by (try simp only [List.map_toArray, List.map_cons, List.map_nil]); first | done | rfl | (simp only [List.length_drop, List.length_take]; rfl)) ?_; (with_reducible refine (laws_toNode.calls k a1_0 a1_1 a1_2 _ _ l1_3 t162 t163 t164 t165 _ ?side1 ?side2 A23.out).mono ?_); (case side1 => exact Kd.C_below HR1_3.out (by repeat (first | (with_reducible first | exact HB.out | apply aB_ | apply pN_ | apply dB_ | refine sB_ ?_ GE138.out | refine sB_ ?_ GE139.out | refine sB_ ?_ GE161.out) | exact HB.out))); (case side2 => exact HC1_3.out); rintro e w121 ⟨v166, rfl, ho0, hb⟩; refine ⟨_, rfl, ?_⟩; have n0_ := Aside0.mk (Kd.R_elder' (by (with_reducible repeat (first | apply rA_ | apply rN_ | apply rD_)); exact (Kd.R_mono (rF_ (p := ⟨gb161, 3, none⟩) (rF_ (p := ⟨gb161, 2, none⟩) (rF_ (p := ⟨gb161, 1, none⟩) (rF_ (p := ⟨gb161, 0, none⟩) (Kd.R_mono HO147.out (fun k_ hk => (⟨hk, hk.2⟩ : _ ∧ k_ ≠ gb161))) (fun _ hk => hk.2) (.string t155)) (fun _ hk => hk.2) (.string t156)) (fun _ hk => hk.2) (.string t157)) (fun _ hk => hk.2) (.slice Ao119 t158.length co119)) (fun _ h_ => h_.1))) (Kd.R_base ho0) hb); have n1_ := Aside0.mk (Kd.R_elder' (by (with_reducible repeat (first | apply rA_ | apply rN_ | apply rD_)); exact (Kd.R_mono (rF_ (p := ⟨gb161, 3, none⟩) (rF_ (p := ⟨gb161, 2, none⟩) (rF_ (p := ⟨gb161, 1, none⟩) (rF_ (p := ⟨gb161, 0, none⟩) (Kd.R_mono HO153.out (fun k_ hk => (⟨hk, hk.2⟩ : _ ∧ k_ ≠ gb161))) (fun _ hk => hk.2) (.string t155)) (fun _ hk => hk.2) (.string t156)) (fun _ hk => hk.2) (.string t157)) (fun _ hk => hk.2) (.slice Ao119 t158.length co119)) (fun _ h_ => h_.1))) (Kd.R_base ho0) hb); have n2_ := Aside0.mk (Kd.R_elder' (by (with_reducible repeat (first | apply rA_ | apply rN_ | apply rD_)); exact (Kd.R_mono (rF_ (p := ⟨gb161, 3, none⟩) (rF_ (p := ⟨gb161, 2, none⟩) (rF_ (p := ⟨gb161, 1, none⟩) (rF_ (p := ⟨gb161, 0, none⟩) (Kd.R_mono HO160.out (fun k_ hk => (⟨hk, hk.2⟩ : _ ∧ k_ ≠ gb161))) (fun _ hk => hk.2) (.string t155)) (fun _ hk => hk.2) (.string t156)) (fun _ hk => hk.2) (.string t157)) (fun _ hk => hk.2) (.slice Ao119 t158.length co119)) (fun _ h_ => h_.1))) (Kd.R_base ho0) hb); have n3_ := Aside0.mk (Kd.R_lower (Kd.R_newB (Kd.R_new' (Kd.R_new' (Kd.R_new' ho0 (Kd.R_lt (by (with_reducible repeat (first | apply rA_ | apply rN_ | apply rD_)); exact (Kd.R_mono (rF_ (p := ⟨gb161, 3, none⟩) (rF_ (p := ⟨gb161, 2, none⟩) (rF_ (p := ⟨gb161, 1, none⟩) (rF_ (p := ⟨gb161, 0, none⟩) (Kd.R_mono HO147.out (fun k_ hk => (⟨hk, hk.2⟩ : _ ∧ k_ ≠ gb161))) (fun _ hk => hk.2) (.string t155)) (fun _ hk => hk.2) (.string t156)) (fun _ hk => hk.2) (.string t157)) (fun _ hk => hk.2) (.slice Ao119 t158.length co119)) (fun _ h_ => h_.1))))) (Kd.R_lt (by (with_reducible repeat (first | apply rA_ | apply rN_ | apply rD_)); exact (Kd.R_mono (rF_ (p := ⟨gb161, 3, none⟩) (rF_ (p := ⟨gb161, 2, none⟩) (rF_ (p := ⟨gb161, 1, none⟩) (rF_ (p := ⟨gb161, 0, none⟩) (Kd.R_mono HO153.out (fun k_ hk => (⟨hk, hk.2⟩ : _ ∧ k_ ≠ gb161))) (fun _ hk => hk.2) (.string t155)) (fun _ hk => hk.2) (.string t156)) (fun _ hk => hk.2) (.string t157)) (fun _ hk => hk.2) (.slice Ao119 t158.length co119)) (fun _ h_ => h_.1))))) (Kd.R_lt (by (with_reducible repeat (first | apply rA_ | apply rN_ | apply rD_)); exact (Kd.R_mono (rF_ (p := ⟨gb161, 3, none⟩) (rF_ (p := ⟨gb161, 2, none⟩) (rF_ (p := ⟨gb161, 1, none⟩) (rF_ (p := ⟨gb161, 0, none⟩) (Kd.R_mono HO160.out (fun k_ hk => (⟨hk, hk.2⟩ : _ ∧ k_ ≠ gb161))) (fun _ hk => hk.2) (.string t155)) (fun _ hk => hk.2) (.string t156)) (fun _ hk => hk.2) (.string t157)) (fun _ hk => hk.2) (.slice Ao119 t158.length co119)) (fun _ h_ => h_.1))))) (g := gb161) (o := .cells #[.string t155, .string t156, .string t157, .slice Ao119 t158.length co119] 40 (0, 0)) (by (with_reducible repeat (first | refine bN_ ?_ _ | refine bD_ ?_ | refine bA_ ?_ _)); refine blk_put (cs := #[.string t155, .string t156, .string t157, .slice none 0 0]) ?_ 3 _ rfl; (with_reducible repeat (first | refine bN_ ?_ _ | refine bD_ ?_ | refine bA_ ?_ _)); refine blk_put (cs := #[.string t155, .string t156, .string (⟨#[]⟩ : ByteArray), .slice none 0 0]) ?_ 2 _ rfl; (with_reducible repeat (first | refine bN_ ?_ _ | refine bD_ ?_ | refine bA_ ?_ _)); refine blk_put (cs := #[.string t155, .string (⟨#[]⟩ : ByteArray), .string (⟨#[]⟩ : ByteArray), .slice none 0 0]) ?_ 1 _ rfl; (with_reducible repeat (first | refine bN_ ?_ _ | refine bD_ ?_ | refine bA_ ?_ _)); refine blk_put (cs := #[.string (⟨#[]⟩ : ByteArray), .string (⟨#[]⟩ : ByteArray), .string (⟨#[]⟩ : ByteArray), .slice none 0 0]) ?_ 0 _ rfl; (with_reducible repeat (first | refine bN_ ?_ _ | refine bD_ ?_ | refine bA_ ?_ _)); exact BK161.out)) (below_size (by repeat (first | (with_reducible first | exact HB.out | apply aB_ | apply pN_ | apply dB_ | refine sB_ ?_ GE138.out | refine sB_ ?_ GE139.out | refine sB_ ?_ GE161.out) | exact HB.out)))); have n4_ := Aside0.mk (bB_ (g := gb138) (o := .cells #[.string a0_0, .string a0_1, .string a0_2, .slice A0_3 l0_3.length c0_3] 35 (0, 0)) (by (with_reducible repeat (first | refine bN_ ?_ _ | refine bD_ ?_ | refine bA_ ?_ _)); refine blk_far ?_ NB138_161.out _; (with_reducible repeat (first | refine bN_ ?_ _ | refine bD_ ?_ | refine bA_ ?_ _)); refine blk_far ?_ NB138_161.out _; (with_reducible repeat (first | refine bN_ ?_ _ | refine bD_ ?_ | refine bA_ ?_ _)); refine blk_far ?_ NB138_161.out _; (with_reducible repeat (first | refine bN_ ?_ _ | refine bD_ ?_ | refine bA_ ?_ _)); refine blk_far ?_ NB138_161.out _; (with_reducible repeat (first | refine bN_ ?_ _ | refine bD_ ?_ | refine bA_ ?_ _)); exact BK138.out) hb); have n5_ := Aside0.mk (bB_ (g := gb139) (o := .cells #[.string a1_0, .string a1_1, .string a1_2, .slice A1_3 l1_3.length c1_3] 35 (0, 0)) (by (with_reducible repeat (first | refine bN_ ?_ _ | refine bD_ ?_ | refine bA_ ?_ _)); refine blk_far ?_ NB139_161.out _; (with_reducible repeat (first | refine bN_ ?_ _ | refine bD_ ?_ | refine bA_ ?_ _)); refine blk_far ?_ NB139_161.out _; (with_reducible repeat (first | refine bN_ ?_ _ | refine bD_ ?_ | refine bA_ ?_ _)); refine blk_far ?_ NB139_161.out _; (with_reducible repeat (first | refine bN_ ?_ _ | refine bD_ ?_ | refine bA_ ?_ _)); refine blk_far ?_ NB139_161.out _; (with_reducible repeat (first | refine bN_ ?_ _ | refine bD_ ?_ | refine bA_ ?_ _)); exact BK139.out) hb); have n6_ := Aside0.mk (bB_ (g := gb161) (o := .cells #[.string t155, .string t156, .string t157, .slice Ao119 t158.length co119] 40 (0, 0)) (by (with_reducible repeat (first | refine bN_ ?_ _ | refine bD_ ?_ | refine bA_ ?_ _)); refine blk_put (cs := #[.string t155, .string t156, .string t157, .slice none 0 0]) ?_ 3 _ rfl; (with_reducible repeat (first | refine bN_ ?_ _ | refine bD_ ?_ | refine bA_ ?_ _)); refine blk_put (cs := #[.string t155, .string t156, .string (⟨#[]⟩ : ByteArray), .slice none 0 0]) ?_ 2 _ rfl; (with_reducible repeat (first | refine bN_ ?_ _ | refine bD_ ?_ | refine bA_ ?_ _)); refine blk_put (cs := #[.string t155, .string (⟨#[]⟩ : ByteArray), .string (⟨#[]⟩ : ByteArray), .slice none 0 0]) ?_ 1 _ rfl; (with_reducible repeat (first | refine bN_ ?_ _ | refine bD_ ?_ | refine bA_ ?_ _)); refine blk_put (cs := #[.string (⟨#[]⟩ : ByteArray), .string (⟨#[]⟩ : ByteArray), .string (⟨#[]⟩ : ByteArray), .slice none 0 0]) ?_ 0 _ rfl; (with_reducible repeat (first | refine bN_ ?_ _ | refine bD_ ?_ | refine bA_ ?_ _)); exact BK161.out) hb); have n7_ := Aside0.mk (below_step (by repeat (first | (with_reducible first | exact HB.out | apply aB_ | apply pN_ | apply dB_ | refine sB_ ?_ GE138.out | refine sB_ ?_ GE139.out | refine sB_ ?_ GE161.out) | exact HB.out)) hb); clear HO147; clear HO153; clear HO160; clear BK138; clear BK139; clear BK161; clear HB; have HO147 := n0_; have HO153 := n1_; have HO160 := n2_; have HO167 := n3_; have BK138 := n4_; have BK139 := n5_; have BK161 := n6_; have HB := n7_; clear n0_ n1_ n2_ n3_ n4_ n5_ n6_ n7_; (try clear hb); (try clear hb2); (try clear hk); (try clear hi); (try clear ho0)) | ((with_reducible refine gate_dst (N := 8) rfl ?_); refine box_event ?hg (N := 8) ?hd (cs := #[.string (⟨#[]⟩ : ByteArray), .string (⟨#[]⟩ : ByteArray), .string (⟨#[]⟩ : ByteArray), .slice none 0 0]) (t := 40) ?hr ?_; (case hd => rfl); (case hg => rfl); (case hr => first | (go_simp; done) | (go_simp; rfl)); intro gb168 hg w122 hbox hb; have n0_ := Aside0.mk (Kd.R_below (Kd.R_elderB (by (with_reducible repeat (first | apply rA_ | apply rN_ | apply rD_)); exact HO147.out) gb168 (Nat.le_of_eq hg.symm)) hb); have n1_ := Aside0.mk (Kd.R_below (Kd.R_elderB (by (with_reducible repeat (first | apply rA_ | apply rN_ | apply rD_)); exact HO153.out) gb168 (Nat.le_of_eq hg.symm)) hb); have n2_ := Aside0.mk (Kd.R_below (Kd.R_elderB (by (with_reducible repeat (first | apply rA_ | apply rN_ | apply rD_)); exact HO160.out) gb168 (Nat.le_of_eq hg.symm)) hb); have n3_ := Aside0.mk (Kd.R_below (Kd.R_elderB (by (with_reducible repeat (first | apply rA_ | apply rN_ | apply rD_)); exact HO167.out) gb168 (Nat.le_of_eq hg.symm)) hb); have n4_ := Aside0.mk (bB_ (g := gb138) (o := .cells #[.string a0_0, .string a0_1, .string a0_2, .slice A0_3 l0_3.length c0_3] 35 (0, 0)) (by (with_reducible repeat (first | refine bN_ ?_ _ | refine bD_ ?_ | refine bA_ ?_ _)); exact BK138.out) hb); have n5_ := Aside0.mk (bB_ (g := gb139) (o := .cells #[.string a1_0, .string a1_1, .string a1_2, .slice A1_3 l1_3.length c1_3] 35 (0, 0)) (by (with_reducible repeat (first | refine bN_ ?_ _ | refine bD_ ?_ | refine bA_ ?_ _)); exact BK139.out) hb); have n6_ := Aside0.mk (bB_ (g := gb161) (o := .cells #[.string t155, .string t156, .string t157, .slice Ao119 t158.length co119] 40 (0, 0)) (by (with_reducible repeat (first | refine bN_ ?_ _ | refine bD_ ?_ | refine bA_ ?_ _)); exact BK161.out) hb); have n7_ := Aside0.mk (below_step (by repeat (first | (with_reducible first | exact HB.out | apply aB_ | apply pN_ | apply dB_ | refine sB_ ?_ GE138.out | refine sB_ ?_ GE139.out | refine sB_ ?_ GE161.out) | exact HB.out)) hb); have n8_ := Aside0.mk (hbox); have n9_ := Aside0.mk ((by rw [hg]; exact (below_size (by repeat (first | (with_reducible first | exact HB.out | apply aB_ | apply pN_ | apply dB_ | refine sB_ ?_ GE138.out | refine sB_ ?_ GE139.out | refine sB_ ?_ GE161.out) | exact HB.out))) : w.heap.size ≤ gb168)); have n10_ := Aside0.mk ((by rw [hg]; exact (below_size (by repeat (first | (with_reducible first | exact HB.out | apply aB_ | apply pN_ | apply dB_ | refine sB_ ?_ GE138.out | refine sB_ ?_ GE139.out | refine sB_ ?_ GE161.out) | exact HB.out))) : w.heap.size ≤ gb168)); have n11_ := Aside0.mk ((by rw [hg]; exact Nat.ne_of_lt (blk_lt (g := gb138) (o := .cells #[.string a0_0, .string a0_1, .string a0_2, .slice A0_3 l0_3.length c0_3] 35 (0, 0)) (by (with_reducible repeat (first | refine bN_ ?_ _ | refine bD_ ?_ | refine bA_ ?_ _)); exact BK138.out)) : gb138 ≠ gb168)); have n12_ := Aside0.mk ((by rw [hg]; exact Nat.ne_of_gt (blk_lt (g := gb138) (o := .cells #[.string a0_0, .string a0_1, .string a0_2, .slice A0_3 l0_3.length c0_3] 35 (0, 0)) (by (with_reducible repeat (first | refine bN_ ?_ _ | refine bD_ ?_ | refine bA_ ?_ _)); exact BK138.out)) : gb168 ≠ gb138)); have n13_ := Aside0.mk ((by rw [hg]; exact Nat.ne_of_lt (blk_lt (g := gb139) (o := .cells #[.string a1_0, .string a1_1, .string a1_2, .slice A1_3 l1_3.length c1_3] 35 (0, 0)) (by (with_reducible repeat (first | refine bN_ ?_ _ | refine bD_ ?_ | refine bA_ ?_ _)); exact BK139.out)) : gb139 ≠ gb168)); have n14_ := Aside0.mk ((by rw [hg]; exact Nat.ne_of_gt (blk_lt (g := gb139) (o := .cells #[.string a1_0, .string a1_1, .string a1_2, .slice A1_3 l1_3.length c1_3] 35 (0, 0)) (by (with_reducible repeat (first | refine bN_ ?_ _ | refine bD_ ?_ | refine bA_ ?_ _)); exact BK139.out)) : gb168 ≠ gb139)); have n15_ := Aside0.mk ((by rw [hg]; exact Nat.ne_of_lt (blk_lt (g := gb161) (o := .cells #[.string t155, .string t156, .string t157, .slice Ao119 t158.length co119] 40 (0, 0)) (by (with_reducible repeat (first | refine bN_ ?_ _ | refine bD_ ?_ | refine bA_ ?_ _)); exact BK161.out)) : gb161 ≠ gb168)); have n16_ := Aside0.mk ((by rw [hg]; exact Nat.ne_of_gt (blk_lt (g := gb161) (o := .cells #[.string t155, .string t156, .string t157, .slice Ao119 t158.length co119] 40 (0, 0)) (by (with_reducible repeat (first | refine bN_ ?_ _ | refine bD_ ?_ | refine bA_ ?_ _)); exact BK161.out)) : gb168 ≠ gb161)); clear HO147; clear HO153; clear HO160; clear HO167; clear BK138; clear BK139; clear BK161; clear HB; have HO147 := n0_; have HO153 := n1_; have HO160 := n2_; have HO167 := n3_; have BK138 := n4_; have BK139 := n5_; have BK161 := n6_; have HB := n7_; have BK168 := n8_; have GW168 := n9_; have GE168 := n10_; have NB138_168 := n11_; have NB168_138 := n12_; have NB139_168 := n13_; have NB168_139 := n14_; have NB161_168 := n15_; have NB168_161 := n16_; clear n0_ n1_ n2_ n3_ n4_ n5_ n6_ n7_ n8_ n9_ n10_ n11_ n12_ n13_ n14_ n15_ n16_; clear hb hbox hg; have hnb123 := NB168_138.out; have hnc123 := NB138_168.out; have hnb124 := NB168_139.out; have hnc124 := NB139_168.out; have hnb125 := NB168_161.out; have hnc125 := NB161_168.out; have hcz126_0 : w122.cell? ⟨gb168, 0, none⟩ = some (.string (⟨#[]⟩ : ByteArray)) := (bc_ BK168.out 0).trans rfl; have hcz126_1 : w122.cell? ⟨gb168, 1, none⟩ = some (.string (⟨#[]⟩ : ByteArray)) := (bc_ BK168.out 1).trans rfl; have hcz126_2 : w122.cell? ⟨gb168, 2, none⟩ = some (.string (⟨#[]⟩ : ByteArray)) := (bc_ BK168.out 2).trans rfl; have hcz126_3 : w122.cell? ⟨gb168, 3, none⟩ = some (.slice none 0 0) := (bc_ BK168.out 3).trans rfl; have hfz126_0 := bF_ BK168.out 0; have hfz126_1 := bF_ BK168.out 1; have hfz126_2 := bF_ BK168.out 2; have hfz126_3 := bF_ BK168.out 3; obtain ⟨Ao127, co127, eo127⟩ := Kd.R_slice HO167.out; subst eo127; have hcz128_0 : w122.cell? ⟨gb161, 0, none⟩ = some (.string t155) := (bc_ BK161.out 0).trans rfl; have hcz128_1 : w122.cell? ⟨gb161, 1, none⟩ = some (.string t156) := (bc_ BK161.out 1).trans rfl; have hcz128_2 : w122.cell? ⟨gb161, 2, none⟩ = some (.string t157) := (bc_ BK161.out 2).trans rfl; have hcz128_3 : w122.cell? ⟨gb161, 3, none⟩ = some (.slice Ao119 t158.length co119) := (bc_ BK161.out 3).trans rfl; have hfz128_0 := bF_ BK161.out 0; have hfz128_1 := bF_ BK161.out 1; have hfz128_2 := bF_ BK161.out 2; have hfz128_3 := bF_ BK161.out 3) | ((with_reducible refine gate_callee (f := 25) rfl ?_); refine goesL_ (some 31) rfl rfl Try.func25 (by kernel_rfl) rfl #[.agg #[.string t155, .string t156, .string t157, .slice Ao119 t158.length co119], .agg #[.string t162, .string t163, .string t164, .slice Ao127 t165.length co127]] rfl (by (try simp only [List.map_toArray, List.map_cons, List.map_nil]); first | done | rfl | (simp only [List.length_drop, List.length_take]; rfl)) ?_; (with_reducible refine (impl_SameNode.calls k t155 t156 t157 _ _ t158 t162 t163 t164 _ _ t165 t169 _ ?side1 ?side2 ?side3 ?side4 A24.out).mono ?_); (case side1 => refine (Kd.R_reads' (e := 40) (base := w.heap.size) (ok := fun k_ => (((((True ∧ some k_ ≠ (.slice Ao110 t145.length co110 : Value).ownBlock) ∧ some k_ ≠ (.slice Ao111 t151.length co111 : Value).ownBlock) ∧ k_ ≠ gb161) ∧ some k_ ≠ (.slice Ao127 t165.length co127 : Value).ownBlock) ∧ k_ ≠ gb168)) (n := t158.length) (c := co119) ?_).2.2; exact (by (with_reducible repeat (first | apply rA_ | apply rN_ | apply rD_)); exact (Kd.R_mono (rF_ (p := ⟨gb168, 3, none⟩) (rF_ (p := ⟨gb168, 2, none⟩) (rF_ (p := ⟨gb168, 1, none⟩) (rF_ (p := ⟨gb168, 0, none⟩) (Kd.R_mono HO160.out (fun k_ hk => (⟨hk, hk.2⟩ : _ ∧ k_ ≠ gb168))) (fun _ hk => hk.2) (.string t162)) (fun _ hk => hk.2) (.string t163)) (fun _ hk => hk.2) (.string t164)) (fun _ hk => hk.2) (.slice Ao127 t165.length co127)) (fun _ h_ => h_.1)))); (case side2 => exact (Kd.R_reads' HO160.out).2.1); (case side3 => refine (Kd.R_reads' (e := 40) (base := w.heap.size) (ok := fun k_ => (((((True ∧ some k_ ≠ (.slice Ao110 t145.length co110 : Value).ownBlock) ∧ some k_ ≠ (.slice Ao111 t151.length co111 : Value).ownBlock) ∧ some k_ ≠ (.slice Ao119 t158.length co119 : Value).ownBlock) ∧ k_ ≠ gb161) ∧ k_ ≠ gb168)) (n := t165.length) (c := co127) ?_).2.2; exact (by (with_reducible repeat (first | apply rA_ | apply rN_ | apply rD_)); exact (Kd.R_mono (rF_ (p := ⟨gb168, 3, none⟩) (rF_ (p := ⟨gb168, 2, none⟩) (rF_ (p := ⟨gb168, 1, none⟩) (rF_ (p := ⟨gb168, 0, none⟩) (Kd.R_mono HO167.out (fun k_ hk => (⟨hk, hk.2⟩ : _ ∧ k_ ≠ gb168))) (fun _ hk => hk.2) (.string t162)) (fun _ hk => hk.2) (.string t163)) (fun _ hk => hk.2) (.string t164)) (fun _ hk => hk.2) (.slice Ao127 t165.length co127)) (fun _ h_ => h_.1)))); (case side4 => exact (Kd.R_reads' HO167.out).2.1); rintro e w129 ⟨rfl, hb⟩; refine ⟨_, rfl, ?_⟩; have n0_ := Aside0.mk (Kd.R_below (by (with_reducible repeat (first | apply rA_ | apply rN_ | apply rD_)); exact (Kd.R_mono (rF_ (p := ⟨gb168, 3, none⟩) (rF_ (p := ⟨gb168, 2, none⟩) (rF_ (p := ⟨gb168, 1, none⟩) (rF_ (p := ⟨gb168, 0, none⟩) (Kd.R_mono HO147.out (fun k_ hk => (⟨hk, hk.2⟩ : _ ∧ k_ ≠ gb168))) (fun _ hk => hk.2) (.string t162)) (fun _ hk => hk.2) (.string t163)) (fun _ hk => hk.2) (.string t164)) (fun _ hk => hk.2) (.slice Ao127 t165.length co127)) (fun _ h_ => h_.1))) hb); have n1_ := Aside0.mk (Kd.R_below (by (with_reducible repeat (first | apply rA_ | apply rN_ | apply rD_)); exact (Kd.R_mono (rF_ (p := ⟨gb168, 3, none⟩) (rF_ (p := ⟨gb168, 2, none⟩) (rF_ (p := ⟨gb168, 1, none⟩) (rF_ (p := ⟨gb168, 0, none⟩) (Kd.R_mono HO153.out (fun k_ hk => (⟨hk, hk.2⟩ : _ ∧ k_ ≠ gb168))) (fun _ hk => hk.2) (.string t162)) (fun _ hk => hk.2) (.string t163)) (fun _ hk => hk.2) (.string t164)) (fun _ hk => hk.2) (.slice Ao127 t165.length co127)) (fun _ h_ => h_.1))) hb); have n2_ := Aside0.mk (Kd.R_below (by (with_reducible repeat (first | apply rA_ | apply rN_ | apply rD_)); exact (Kd.R_mono (rF_ (p := ⟨gb168, 3, none⟩) (rF_ (p := ⟨gb168, 2, none⟩) (rF_ (p := ⟨gb168, 1, none⟩) (rF_ (p := ⟨gb168, 0, none⟩) (Kd.R_mono HO160.out (fun k_ hk => (⟨hk, hk.2⟩ : _ ∧ k_ ≠ gb168))) (fun _ hk => hk.2) (.string t162)) (fun _ hk => hk.2) (.string t163)) (fun _ hk => hk.2) (.string t164)) (fun _ hk => hk.2) (.slice Ao127 t165.length co127)) (fun _ h_ => h_.1))) hb); have n3_ := Aside0.mk (Kd.R_below (by (with_reducible repeat (first | apply rA_ | apply rN_ | apply rD_)); exact (Kd.R_mono (rF_ (p := ⟨gb168, 3, none⟩) (rF_ (p := ⟨gb168, 2, none⟩) (rF_ (p := ⟨gb168, 1, none⟩) (rF_ (p := ⟨gb168, 0, none⟩) (Kd.R_mono HO167.out (fun k_ hk => (⟨hk, hk.2⟩ : _ ∧ k_ ≠ gb168))) (fun _ hk => hk.2) (.string t162)) (fun _ hk => hk.2) (.string t163)) (fun _ hk => hk.2) (.string t164)) (fun _ hk => hk.2) (.slice Ao127 t165.length co127)) (fun _ h_ => h_.1))) hb); have n4_ := Aside0.mk (bB_ (g := gb138) (o := .cells #[.string a0_0, .string a0_1, .string a0_2, .slice A0_3 l0_3.length c0_3] 35 (0, 0)) (by (with_reducible repeat (first | refine bN_ ?_ _ | refine bD_ ?_ | refine bA_ ?_ _)); refine blk_far ?_ NB138_168.out _; (with_reducible repeat (first | refine bN_ ?_ _ | refine bD_ ?_ | refine bA_ ?_ _)); refine blk_far ?_ NB138_168.out _; (with_reducible repeat (first | refine bN_ ?_ _ | refine bD_ ?_ | refine bA_ ?_ _)); refine blk_far ?_ NB138_168.out _; (with_reducible repeat (first | refine bN_ ?_ _ | refine bD_ ?_ | refine bA_ ?_ _)); refine blk_far ?_ NB138_168.out _; (with_reducible repeat (first | refine bN_ ?_ _ | refine bD_ ?_ | refine bA_ ?_ _)); exact BK138.out) hb); have n5_ := Aside0.mk (bB_ (g := gb139) (o := .cells #[.string a1_0, .string a1_1, .string a1_2, .slice A1_3 l1_3.length c1_3] 35 (0, 0)) (by (with_reducible repeat (first | refine bN_ ?_ _ | refine bD_ ?_ | refine bA_ ?_ _)); refine blk_far ?_ NB139_168.out _; (with_reducible repeat (first | refine bN_ ?_ _ | refine bD_ ?_ | refine bA_ ?_ _)); refine blk_far ?_ NB139_168.out _; (with_reducible repeat (first | refine bN_ ?_ _ | refine bD_ ?_ | refine bA_ ?_ _)); refine blk_far ?_ NB139_168.out _; (with_reducible repeat (first | refine bN_ ?_ _ | refine bD_ ?_ | refine bA_ ?_ _)); refine blk_far ?_ NB139_168.out _; (with_reducible repeat (first | refine bN_ ?_ _ | refine bD_ ?_ | refine bA_ ?_ _)); exact BK139.out) hb); have n6_ := Aside0.mk (bB_ (g := gb161) (o := .cells #[.string t155, .string t156, .string t157, .slice Ao119 t158.length co119] 40 (0, 0)) (by (with_reducible repeat (first | refine bN_ ?_ _ | refine bD_ ?_ | refine bA_ ?_ _)); refine blk_far ?_ NB161_168.out _; (with_reducible repeat (first | refine bN_ ?_ _ | refine bD_ ?_ | refine bA_ ?_ _)); refine blk_far ?_ NB161_168.out _; (with_reducible repeat (first | refine bN_ ?_ _ | refine bD_ ?_ | refine bA_ ?_ _)); refine blk_far ?_ NB161_168.out _; (with_reducible repeat (first | refine bN_ ?_ _ | refine bD_ ?_ | refine bA_ ?_ _)); refine blk_far ?_ NB161_168.out _; (with_reducible repeat (first | refine bN_ ?_ _ | refine bD_ ?_ | refine bA_ ?_ _)); exact BK161.out) hb); have n7_ := Aside0.mk (bB_ (g := gb168) (o := .cells #[.string t162, .string t163, .string t164, .slice Ao127 t165.length co127] 40 (0, 0)) (by (with_reducible repeat (first | refine bN_ ?_ _ | refine bD_ ?_ | refine bA_ ?_ _)); refine blk_put (cs := #[.string t162, .string t163, .string t164, .slice none 0 0]) ?_ 3 _ rfl; (with_reducible repeat (first | refine bN_ ?_ _ | refine bD_ ?_ | refine bA_ ?_ _)); refine blk_put (cs := #[.string t162, .string t163, .string (⟨#[]⟩ : ByteArray), .slice none 0 0]) ?_ 2 _ rfl; (with_reducible repeat (first | refine bN_ ?_ _ | refine bD_ ?_ | refine bA_ ?_ _)); refine blk_put (cs := #[.string t162, .string (⟨#[]⟩ : ByteArray), .string (⟨#[]⟩ : ByteArray), .slice none 0 0]) ?_ 1 _ rfl; (with_reducible repeat (first | refine bN_ ?_ _ | refine bD_ ?_ | refine bA_ ?_ _)); refine blk_put (cs := #[.string (⟨#[]⟩ : ByteArray), .string (⟨#[]⟩ : ByteArray), .string (⟨#[]⟩ : ByteArray), .slice none 0 0]) ?_ 0 _ rfl; (with_reducible repeat (first | refine bN_ ?_ _ | refine bD_ ?_ | refine bA_ ?_ _)); exact BK168.out) hb); have n8_ := Aside0.mk (below_step (by repeat (first | (with_reducible first | exact HB.out | apply aB_ | apply pN_ | apply dB_ | refine sB_ ?_ GE138.out | refine sB_ ?_ GE139.out | refine sB_ ?_ GE161.out | refine sB_ ?_ GE168.out) | exact HB.out)) hb); clear HO147; clear HO153; clear HO160; clear HO167; clear BK138; clear BK139; clear BK161; clear BK168; clear HB; have HO147 := n0_; have HO153 := n1_; have HO160 := n2_; have HO167 := n3_; have BK138 := n4_; have BK139 := n5_; have BK161 := n6_; have BK168 := n7_; have HB := n8_; clear n0_ n1_ n2_ n3_ n4_ n5_ n6_ n7_ n8_; (try clear hb); (try clear hb2); (try clear hk); (try clear hi)))
      have n0_ := Aside0.mk (rD_ HO147.out)
      have n1_ := Aside0.mk (rD_ HO153.out)
      have n2_ := Aside0.mk (rD_ HO160.out)
      have n3_ := Aside0.mk (rD_ HO167.out)
      have n4_ := Aside0.mk (bD_ BK138.out)
      have n5_ := Aside0.mk (bD_ BK139.out)
      have n6_ := Aside0.mk (bD_ BK161.out)
      have n7_ := Aside0.mk (bD_ BK168.out)
      have n8_ := Aside0.mk (dB_ HB.out)
      clear HO147
      clear HO153
      clear HO160
      clear HO167
      clear BK138
      clear BK139
      clear BK161
      clear BK168
      clear HB
      have HO147 := n0_
      have HO153 := n1_
      have HO160 := n2_
      have HO167 := n3_
      have BK138 := n4_
      have BK139 := n5_
      have BK161 := n6_
      have BK168 := n7_
      have HB := n8_
      clear n0_ n1_ n2_ n3_ n4_ n5_ n6_ n7_ n8_
      refine start_ (n := 5) (S := fun w' => w'.cell? ⟨gb161, 0, none⟩ = some (.string t155) ∧ w'.cell? ⟨gb161, 1, none⟩ = some (.string t156) ∧ w'.cell? ⟨gb161, 2, none⟩ = some (.string t157) ∧ w'.cell? ⟨gb161, 3, none⟩ = some (.slice Ao119 t158.length co119) ∧ w'.cell? ⟨gb138, 0, none⟩ = some (.string a0_0) ∧ w'.cell? ⟨gb138, 1, none⟩ = some (.string a0_1) ∧ w'.cell? ⟨gb138, 2, none⟩ = some (.string a0_2) ∧ w'.cell? ⟨gb138, 3, none⟩ = some (.slice A0_3 l0_3.length c0_3)) (ds := []) #[false, false, false, false, false] (by kernel_rfl) rfl rfl ⟨(bc_ BK161.out 0).trans rfl, (bc_ BK161.out 1).trans rfl, (bc_ BK161.out 2).trans rfl, (bc_ BK161.out 3).trans rfl, (bc_ BK138.out 0).trans rfl, (bc_ BK138.out 1).trans rfl, (bc_ BK138.out 2).trans rfl, (bc_ BK138.out 3).trans rfl⟩ (fun hHeld => ?_)
      generalize w129.drew = w130 at HO147 HO153 HO160 HO167 BK138 BK139 BK161 BK168 HB hHeld ⊢
      refine take_ (i := 0) (N := some 35) (v := ?_) (a' := ?_) #[true, false, false, false, false] rfl rfl (by kernel_rfl) (fun _ _ _ h => h) (Or.inl ⟨by rfl, ?_⟩) hHeld ?_ ?_
      rotate_left
      ·rintro w' ⟨s0, s1, s2, s3, s4, s5, s6, s7⟩
       go_simp
       with_reducible rfl
      rotate_left
      ·simp only [Act.put, List.setIfInBounds_toArray, List.set_cons_zero, List.set_cons_succ, i64_w, i32_w]
       rfl
      refine take_ (i := 1) (N := some 36) (v := ?_) (a' := ?_) #[true, true, false, false, false] rfl rfl (by kernel_rfl) (fun _ _ _ h => h) (Or.inl ⟨by rfl, ?_⟩) hHeld ?_ ?_
      rotate_left
      ·rintro w' ⟨s0, s1, s2, s3, s4, s5, s6, s7⟩
       go_simp
       with_reducible rfl
      rotate_left
      ·simp only [Act.put, List.setIfInBounds_toArray, List.set_cons_zero, List.set_cons_succ, i64_w, i32_w]
       rfl
      refine one_ (i := 2) (N := some 37) #[true, true, true, false, false] rfl rfl (by kernel_rfl) (by decide) (fun K hK => ?_)
      refine goes_ Try.func24 (by kernel_rfl) rfl #[.agg #[.string a0_0, .string a0_1, .string a0_2, .slice A0_3 l0_3.length c0_3]] (by rfl) rfl rfl (by (try simp only [List.map_toArray, List.map_cons, List.map_nil]); first | done | rfl | (simp only [List.length_drop, List.length_take]; rfl)) ?_
      with_reducible refine (laws_toNode.calls k a0_0 a0_1 a0_2 _ _ l0_3 t170 t171 t172 t173 _ ?side1 ?side2 A56.out).mono ?_
      (case side1 => repeat (first | exact (Kd.C_below HR0_3.out HB.out) | (with_reducible refine Kd.C_alloc ?_ _) | (with_reducible refine Kd.C_drewN ?_ _) | (with_reducible refine Kd.C_drew ?_)))
      (case side2 => exact HC0_3.out)
      rintro e w131 ⟨v174, rfl, ho0, hb⟩
      refine ⟨_, rfl, ?_⟩
      have n0_ := Aside0.mk (Kd.R_elder' (by (with_reducible repeat (first | apply rA_ | apply rN_ | apply rD_)); exact HO147.out) (Kd.R_base ho0) hb)
      have n1_ := Aside0.mk (Kd.R_elder' (by (with_reducible repeat (first | apply rA_ | apply rN_ | apply rD_)); exact HO153.out) (Kd.R_base ho0) hb)
      have n2_ := Aside0.mk (Kd.R_elder' (by (with_reducible repeat (first | apply rA_ | apply rN_ | apply rD_)); exact HO160.out) (Kd.R_base ho0) hb)
      have n3_ := Aside0.mk (Kd.R_elder' (by (with_reducible repeat (first | apply rA_ | apply rN_ | apply rD_)); exact HO167.out) (Kd.R_base ho0) hb)
      have n4_ := Aside0.mk (Kd.R_lower (Kd.R_newB (Kd.R_newB (Kd.R_new' (Kd.R_new' (Kd.R_new' (Kd.R_new' ho0 (Kd.R_lt (by (with_reducible repeat (first | apply rA_ | apply rN_ | apply rD_)); exact HO147.out))) (Kd.R_lt (by (with_reducible repeat (first | apply rA_ | apply rN_ | apply rD_)); exact HO153.out))) (Kd.R_lt (by (with_reducible repeat (first | apply rA_ | apply rN_ | apply rD_)); exact HO160.out))) (Kd.R_lt (by (with_reducible repeat (first | apply rA_ | apply rN_ | apply rD_)); exact HO167.out))) (g := gb161) (o := .cells #[.string t155, .string t156, .string t157, .slice Ao119 t158.length co119] 40 (0, 0)) (by (with_reducible repeat (first | refine bN_ ?_ _ | refine bD_ ?_ | refine bA_ ?_ _)); exact BK161.out)) (g := gb168) (o := .cells #[.string t162, .string t163, .string t164, .slice Ao127 t165.length co127] 40 (0, 0)) (by (with_reducible repeat (first | refine bN_ ?_ _ | refine bD_ ?_ | refine bA_ ?_ _)); exact BK168.out)) (below_size (by repeat (first | (with_reducible first | exact HB.out | apply aB_ | apply pN_ | apply dB_ | refine sB_ ?_ GE138.out | refine sB_ ?_ GE139.out | refine sB_ ?_ GE161.out | refine sB_ ?_ GE168.out) | exact HB.out))))
      have n5_ := Aside0.mk (bB_ (g := gb138) (o := .cells #[.string a0_0, .string a0_1, .string a0_2, .slice A0_3 l0_3.length c0_3] 35 (0, 0)) (by (with_reducible repeat (first | refine bN_ ?_ _ | refine bD_ ?_ | refine bA_ ?_ _)); exact BK138.out) hb)
      have n6_ := Aside0.mk (bB_ (g := gb139) (o := .cells #[.string a1_0, .string a1_1, .string a1_2, .slice A1_3 l1_3.length c1_3] 35 (0, 0)) (by (with_reducible repeat (first | refine bN_ ?_ _ | refine bD_ ?_ | refine bA_ ?_ _)); exact BK139.out) hb)
      have n7_ := Aside0.mk (bB_ (g := gb161) (o := .cells #[.string t155, .string t156, .string t157, .slice Ao119 t158.length co119] 40 (0, 0)) (by (with_reducible repeat (first | refine bN_ ?_ _ | refine bD_ ?_ | refine bA_ ?_ _)); exact BK161.out) hb)
      have n8_ := Aside0.mk (bB_ (g := gb168) (o := .cells #[.string t162, .string t163, .string t164, .slice Ao127 t165.length co127] 40 (0, 0)) (by (with_reducible repeat (first | refine bN_ ?_ _ | refine bD_ ?_ | refine bA_ ?_ _)); exact BK168.out) hb)
      have n9_ := Aside0.mk (below_step (by repeat (first | (with_reducible first | exact HB.out | apply aB_ | apply pN_ | apply dB_ | refine sB_ ?_ GE138.out | refine sB_ ?_ GE139.out | refine sB_ ?_ GE161.out | refine sB_ ?_ GE168.out) | exact HB.out)) hb)
      clear HO147
      clear HO153
      clear HO160
      clear HO167
      clear BK138
      clear BK139
      clear BK161
      clear BK168
      clear HB
      have HO147 := n0_
      have HO153 := n1_
      have HO160 := n2_
      have HO167 := n3_
      have HO175 := n4_
      have BK138 := n5_
      have BK139 := n6_
      have BK161 := n7_
      have BK168 := n8_
      have HB := n9_
      clear n0_ n1_ n2_ n3_ n4_ n5_ n6_ n7_ n8_ n9_
      (try clear hb)
      (try clear hb2)
      (try clear hk)
      (try clear hi)
      (try clear ho0)
      obtain ⟨Ao132, co132, eo132⟩ := Kd.R_slice HO175.out
      (first | subst eo132 | (injection eo132 with f1_ f2_ f3_; have f4_ := f1_.symm; have f5_ := f3_.symm; clear f1_ f2_ f3_; subst f4_; subst f5_))
      refine hK.out _ _ ⟨(bc_ BK161.out 0).trans rfl, (bc_ BK161.out 1).trans rfl, (bc_ BK161.out 2).trans rfl, (bc_ BK161.out 3).trans rfl, (bc_ BK138.out 0).trans rfl, (bc_ BK138.out 1).trans rfl, (bc_ BK138.out 2).trans rfl, (bc_ BK138.out 3).trans rfl⟩ (fun hHeld => ?_)
      clear hK K
      refine norm_ (a' := ?_) ?_ ?_
      rotate_left
      ·show Act.put _ (some 37) _ = _
       simp only [Act.put, List.setIfInBounds_toArray, List.set_cons_zero, List.set_cons_succ, i64_w, i32_w]
       rfl
      refine one_ (i := 3) (N := some 38) #[true, true, true, true, false] rfl rfl (by kernel_rfl) (by decide) (fun K hK => ?_)
      refine goes_ Try.func26 (by kernel_rfl) rfl #[.agg #[.string t155, .string t156, .string t157, .slice Ao119 t158.length co119], .agg #[.string t170, .string t171, .string t172, .slice Ao132 t173.length co132]] (by rfl) rfl rfl (by (try simp only [List.map_toArray, List.map_cons, List.map_nil]); first | done | rfl | (simp only [List.length_drop, List.length_take]; rfl)) ?_
      with_reducible refine (laws_eqNode.calls k t155 t156 t157 _ _ t158 t170 t171 t172 _ _ t173 true _ ?side1 ?side2 ?side3 ?side4 A57.out).mono ?_
      (case side1 => repeat (first | exact (Kd.R_reads' HO160.out).2.2 | (with_reducible refine Kd.C_alloc ?_ _) | (with_reducible refine Kd.C_drewN ?_ _) | (with_reducible refine Kd.C_drew ?_)))
      (case side2 => exact (Kd.R_reads' HO160.out).2.1)
      (case side3 => repeat (first | exact (Kd.R_reads' HO175.out).2.2 | (with_reducible refine Kd.C_alloc ?_ _) | (with_reducible refine Kd.C_drewN ?_ _) | (with_reducible refine Kd.C_drew ?_)))
      (case side4 => exact (Kd.R_reads' HO175.out).2.1)
      rintro e w133 ⟨rfl, hb⟩
      refine ⟨_, rfl, ?_⟩
      have n0_ := Aside0.mk (Kd.R_below (by (with_reducible repeat (first | apply rA_ | apply rN_ | apply rD_)); exact HO147.out) hb)
      have n1_ := Aside0.mk (Kd.R_below (by (with_reducible repeat (first | apply rA_ | apply rN_ | apply rD_)); exact HO153.out) hb)
      have n2_ := Aside0.mk (Kd.R_below (by (with_reducible repeat (first | apply rA_ | apply rN_ | apply rD_)); exact HO160.out) hb)
      have n3_ := Aside0.mk (Kd.R_below (by (with_reducible repeat (first | apply rA_ | apply rN_ | apply rD_)); exact HO167.out) hb)
      have n4_ := Aside0.mk (Kd.R_below (by (with_reducible repeat (first | apply rA_ | apply rN_ | apply rD_)); exact HO175.out) hb)
      have n5_ := Aside0.mk (bB_ (g := gb138) (o := .cells #[.string a0_0, .string a0_1, .string a0_2, .slice A0_3 l0_3.length c0_3] 35 (0, 0)) (by (with_reducible repeat (first | refine bN_ ?_ _ | refine bD_ ?_ | refine bA_ ?_ _)); exact BK138.out) hb)
      have n6_ := Aside0.mk (bB_ (g := gb139) (o := .cells #[.string a1_0, .string a1_1, .string a1_2, .slice A1_3 l1_3.length c1_3] 35 (0, 0)) (by (with_reducible repeat (first | refine bN_ ?_ _ | refine bD_ ?_ | refine bA_ ?_ _)); exact BK139.out) hb)
      have n7_ := Aside0.mk (bB_ (g := gb161) (o := .cells #[.string t155, .string t156, .string t157, .slice Ao119 t158.length co119] 40 (0, 0)) (by (with_reducible repeat (first | refine bN_ ?_ _ | refine bD_ ?_ | refine bA_ ?_ _)); exact BK161.out) hb)
      have n8_ := Aside0.mk (bB_ (g := gb168) (o := .cells #[.string t162, .string t163, .string t164, .slice Ao127 t165.length co127] 40 (0, 0)) (by (with_reducible repeat (first | refine bN_ ?_ _ | refine bD_ ?_ | refine bA_ ?_ _)); exact BK168.out) hb)
      have n9_ := Aside0.mk (below_step (by repeat (first | (with_reducible first | exact HB.out | apply aB_ | apply pN_ | apply dB_ | refine sB_ ?_ GE138.out | refine sB_ ?_ GE139.out | refine sB_ ?_ GE161.out | refine sB_ ?_ GE168.out) | exact HB.out)) hb)
      clear HO147
      clear HO153
      clear HO160
      clear HO167
      clear HO175
      clear BK138
      clear BK139
      clear BK161
      clear BK168
      clear HB
      have HO147 := n0_
      have HO153 := n1_
      have HO160 := n2_
      have HO167 := n3_
      have HO175 := n4_
      have BK138 := n5_
      have BK139 := n6_
      have BK161 := n7_
      have BK168 := n8_
      have HB := n9_
      clear n0_ n1_ n2_ n3_ n4_ n5_ n6_ n7_ n8_ n9_
      (try clear hb)
      (try clear hb2)
      (try clear hk)
      (try clear hi)
      refine hK.out _ _ ⟨(bc_ BK161.out 0).trans rfl, (bc_ BK161.out 1).trans rfl, (bc_ BK161.out 2).trans rfl, (bc_ BK161.out 3).trans rfl, (bc_ BK138.out 0).trans rfl, (bc_ BK138.out 1).trans rfl, (bc_ BK138.out 2).trans rfl, (bc_ BK138.out 3).trans rfl⟩ (fun hHeld => ?_)
      clear hK K
      refine norm_ (a' := ?_) ?_ ?_
      rotate_left
      ·show Act.put _ (some 38) _ = _
       simp only [Act.put, List.setIfInBounds_toArray, List.set_cons_zero, List.set_cons_succ, i64_w, i32_w]
       rfl
      refine pure_ (i := 4) (N := some 39) (v := ?_) (a' := ?_) #[true, true, true, true, true] rfl rfl (by kernel_rfl) (fun _ _ _ h => h) (Or.inl ⟨by rfl, ?_⟩) ?_ ?_
      rotate_left
      ·intro w'
       go_simp
       with_reducible rfl
      rotate_left
      ·simp only [Act.put, List.setIfInBounds_toArray, List.set_cons_zero, List.set_cons_succ, i64_w, i32_w]
       rfl
      refine done_ (by kernel_rfl) ?_
      try go_wp2
      have n0_ := Aside0.mk (rD_ HO147.out)
      have n1_ := Aside0.mk (rD_ HO153.out)
      have n2_ := Aside0.mk (rD_ HO160.out)
      have n3_ := Aside0.mk (rD_ HO167.out)
      have n4_ := Aside0.mk (rD_ HO175.out)
      have n5_ := Aside0.mk (bD_ BK138.out)
      have n6_ := Aside0.mk (bD_ BK139.out)
      have n7_ := Aside0.mk (bD_ BK161.out)
      have n8_ := Aside0.mk (bD_ BK168.out)
      have n9_ := Aside0.mk (dB_ HB.out)
      clear HO147
      clear HO153
      clear HO160
      clear HO167
      clear HO175
      clear BK138
      clear BK139
      clear BK161
      clear BK168
      clear HB
      have HO147 := n0_
      have HO153 := n1_
      have HO160 := n2_
      have HO167 := n3_
      have HO175 := n4_
      have BK138 := n5_
      have BK139 := n6_
      have BK161 := n7_
      have BK168 := n8_
      have HB := n9_
      clear n0_ n1_ n2_ n3_ n4_ n5_ n6_ n7_ n8_ n9_
      refine start_ (n := 5) (S := fun w' => w'.cell? ⟨gb168, 0, none⟩ = some (.string t162) ∧ w'.cell? ⟨gb168, 1, none⟩ = some (.string t163) ∧ w'.cell? ⟨gb168, 2, none⟩ = some (.string t164) ∧ w'.cell? ⟨gb168, 3, none⟩ = some (.slice Ao127 t165.length co127) ∧ w'.cell? ⟨gb139, 0, none⟩ = some (.string a1_0) ∧ w'.cell? ⟨gb139, 1, none⟩ = some (.string a1_1) ∧ w'.cell? ⟨gb139, 2, none⟩ = some (.string a1_2) ∧ w'.cell? ⟨gb139, 3, none⟩ = some (.slice A1_3 l1_3.length c1_3)) (ds := []) #[false, false, false, false, false] (by kernel_rfl) rfl rfl ⟨(bc_ BK168.out 0).trans rfl, (bc_ BK168.out 1).trans rfl, (bc_ BK168.out 2).trans rfl, (bc_ BK168.out 3).trans rfl, (bc_ BK139.out 0).trans rfl, (bc_ BK139.out 1).trans rfl, (bc_ BK139.out 2).trans rfl, (bc_ BK139.out 3).trans rfl⟩ (fun hHeld => ?_)
      generalize w133.drew = w134 at HO147 HO153 HO160 HO167 HO175 BK138 BK139 BK161 BK168 HB hHeld ⊢
      refine take_ (i := 0) (N := some 40) (v := ?_) (a' := ?_) #[true, false, false, false, false] rfl rfl (by kernel_rfl) (fun _ _ _ h => h) (Or.inl ⟨by rfl, ?_⟩) hHeld ?_ ?_
      rotate_left
      ·rintro w' ⟨s0, s1, s2, s3, s4, s5, s6, s7⟩
       go_simp
       with_reducible rfl
      rotate_left
      ·simp only [Act.put, List.setIfInBounds_toArray, List.set_cons_zero, List.set_cons_succ, i64_w, i32_w]
       rfl
      refine take_ (i := 1) (N := some 41) (v := ?_) (a' := ?_) #[true, true, false, false, false] rfl rfl (by kernel_rfl) (fun _ _ _ h => h) (Or.inl ⟨by rfl, ?_⟩) hHeld ?_ ?_
      rotate_left
      ·rintro w' ⟨s0, s1, s2, s3, s4, s5, s6, s7⟩
       go_simp
       with_reducible rfl
      rotate_left
      ·simp only [Act.put, List.setIfInBounds_toArray, List.set_cons_zero, List.set_cons_succ, i64_w, i32_w]
       rfl
      refine one_ (i := 2) (N := some 42) #[true, true, true, false, false] rfl rfl (by kernel_rfl) (by decide) (fun K hK => ?_)
      refine goes_ Try.func24 (by kernel_rfl) rfl #[.agg #[.string a1_0, .string a1_1, .string a1_2, .slice A1_3 l1_3.length c1_3]] (by rfl) rfl rfl (by (try simp only [List.map_toArray, List.map_cons, List.map_nil]); first | done | rfl | (simp only [List.length_drop, List.length_take]; rfl)) ?_
      with_reducible refine (laws_toNode.calls k a1_0 a1_1 a1_2 _ _ l1_3 t177 t178 t179 t180 _ ?side1 ?side2 A59.out).mono ?_
      (case side1 => repeat (first | exact (Kd.C_below HR1_3.out HB.out) | (with_reducible refine Kd.C_alloc ?_ _) | (with_reducible refine Kd.C_drewN ?_ _) | (with_reducible refine Kd.C_drew ?_)))
      (case side2 => exact HC1_3.out)
      rintro e w135 ⟨v181, rfl, ho0, hb⟩
      refine ⟨_, rfl, ?_⟩
      have n0_ := Aside0.mk (Kd.R_elder' (by (with_reducible repeat (first | apply rA_ | apply rN_ | apply rD_)); exact HO147.out) (Kd.R_base ho0) hb)
      have n1_ := Aside0.mk (Kd.R_elder' (by (with_reducible repeat (first | apply rA_ | apply rN_ | apply rD_)); exact HO153.out) (Kd.R_base ho0) hb)
      have n2_ := Aside0.mk (Kd.R_elder' (by (with_reducible repeat (first | apply rA_ | apply rN_ | apply rD_)); exact HO160.out) (Kd.R_base ho0) hb)
      have n3_ := Aside0.mk (Kd.R_elder' (by (with_reducible repeat (first | apply rA_ | apply rN_ | apply rD_)); exact HO167.out) (Kd.R_base ho0) hb)
      have n4_ := Aside0.mk (Kd.R_elder' (by (with_reducible repeat (first | apply rA_ | apply rN_ | apply rD_)); exact HO175.out) (Kd.R_base ho0) hb)
      have n5_ := Aside0.mk (Kd.R_lower (Kd.R_newB (Kd.R_newB (Kd.R_new' (Kd.R_new' (Kd.R_new' (Kd.R_new' (Kd.R_new' ho0 (Kd.R_lt (by (with_reducible repeat (first | apply rA_ | apply rN_ | apply rD_)); exact HO147.out))) (Kd.R_lt (by (with_reducible repeat (first | apply rA_ | apply rN_ | apply rD_)); exact HO153.out))) (Kd.R_lt (by (with_reducible repeat (first | apply rA_ | apply rN_ | apply rD_)); exact HO160.out))) (Kd.R_lt (by (with_reducible repeat (first | apply rA_ | apply rN_ | apply rD_)); exact HO167.out))) (Kd.R_lt (by (with_reducible repeat (first | apply rA_ | apply rN_ | apply rD_)); exact HO175.out))) (g := gb161) (o := .cells #[.string t155, .string t156, .string t157, .slice Ao119 t158.length co119] 40 (0, 0)) (by (with_reducible repeat (first | refine bN_ ?_ _ | refine bD_ ?_ | refine bA_ ?_ _)); exact BK161.out)) (g := gb168) (o := .cells #[.string t162, .string t163, .string t164, .slice Ao127 t165.length co127] 40 (0, 0)) (by (with_reducible repeat (first | refine bN_ ?_ _ | refine bD_ ?_ | refine bA_ ?_ _)); exact BK168.out)) (below_size (by repeat (first | (with_reducible first | exact HB.out | apply aB_ | apply pN_ | apply dB_ | refine sB_ ?_ GE138.out | refine sB_ ?_ GE139.out | refine sB_ ?_ GE161.out | refine sB_ ?_ GE168.out) | exact HB.out))))
      have n6_ := Aside0.mk (bB_ (g := gb138) (o := .cells #[.string a0_0, .string a0_1, .string a0_2, .slice A0_3 l0_3.length c0_3] 35 (0, 0)) (by (with_reducible repeat (first | refine bN_ ?_ _ | refine bD_ ?_ | refine bA_ ?_ _)); exact BK138.out) hb)
      have n7_ := Aside0.mk (bB_ (g := gb139) (o := .cells #[.string a1_0, .string a1_1, .string a1_2, .slice A1_3 l1_3.length c1_3] 35 (0, 0)) (by (with_reducible repeat (first | refine bN_ ?_ _ | refine bD_ ?_ | refine bA_ ?_ _)); exact BK139.out) hb)
      have n8_ := Aside0.mk (bB_ (g := gb161) (o := .cells #[.string t155, .string t156, .string t157, .slice Ao119 t158.length co119] 40 (0, 0)) (by (with_reducible repeat (first | refine bN_ ?_ _ | refine bD_ ?_ | refine bA_ ?_ _)); exact BK161.out) hb)
      have n9_ := Aside0.mk (bB_ (g := gb168) (o := .cells #[.string t162, .string t163, .string t164, .slice Ao127 t165.length co127] 40 (0, 0)) (by (with_reducible repeat (first | refine bN_ ?_ _ | refine bD_ ?_ | refine bA_ ?_ _)); exact BK168.out) hb)
      have n10_ := Aside0.mk (below_step (by repeat (first | (with_reducible first | exact HB.out | apply aB_ | apply pN_ | apply dB_ | refine sB_ ?_ GE138.out | refine sB_ ?_ GE139.out | refine sB_ ?_ GE161.out | refine sB_ ?_ GE168.out) | exact HB.out)) hb)
      clear HO147
      clear HO153
      clear HO160
      clear HO167
      clear HO175
      clear BK138
      clear BK139
      clear BK161
      clear BK168
      clear HB
      have HO147 := n0_
      have HO153 := n1_
      have HO160 := n2_
      have HO167 := n3_
      have HO175 := n4_
      have HO182 := n5_
      have BK138 := n6_
      have BK139 := n7_
      have BK161 := n8_
      have BK168 := n9_
      have HB := n10_
      clear n0_ n1_ n2_ n3_ n4_ n5_ n6_ n7_ n8_ n9_ n10_
      (try clear hb)
      (try clear hb2)
      (try clear hk)
      (try clear hi)
      (try clear ho0)
      obtain ⟨Ao136, co136, eo136⟩ := Kd.R_slice HO182.out
      (first | subst eo136 | (injection eo136 with f1_ f2_ f3_; have f4_ := f1_.symm; have f5_ := f3_.symm; clear f1_ f2_ f3_; subst f4_; subst f5_))
      refine hK.out _ _ ⟨(bc_ BK168.out 0).trans rfl, (bc_ BK168.out 1).trans rfl, (bc_ BK168.out 2).trans rfl, (bc_ BK168.out 3).trans rfl, (bc_ BK139.out 0).trans rfl, (bc_ BK139.out 1).trans rfl, (bc_ BK139.out 2).trans rfl, (bc_ BK139.out 3).trans rfl⟩ (fun hHeld => ?_)
      clear hK K
      refine norm_ (a' := ?_) ?_ ?_
      rotate_left
      ·show Act.put _ (some 42) _ = _
       simp only [Act.put, List.setIfInBounds_toArray, List.set_cons_zero, List.set_cons_succ, i64_w, i32_w]
       rfl
      refine one_ (i := 3) (N := some 43) #[true, true, true, true, false] rfl rfl (by kernel_rfl) (by decide) (fun K hK => ?_)
      refine goes_ Try.func26 (by kernel_rfl) rfl #[.agg #[.string t162, .string t163, .string t164, .slice Ao127 t165.length co127], .agg #[.string t177, .string t178, .string t179, .slice Ao136 t180.length co136]] (by rfl) rfl rfl (by (try simp only [List.map_toArray, List.map_cons, List.map_nil]); first | done | rfl | (simp only [List.length_drop, List.length_take]; rfl)) ?_
      with_reducible refine (laws_eqNode.calls k t162 t163 t164 _ _ t165 t177 t178 t179 _ _ t180 false _ ?side1 ?side2 ?side3 ?side4 A60.out).mono ?_
      (case side1 => repeat (first | exact (Kd.R_reads' HO167.out).2.2 | (with_reducible refine Kd.C_alloc ?_ _) | (with_reducible refine Kd.C_drewN ?_ _) | (with_reducible refine Kd.C_drew ?_)))
      (case side2 => exact (Kd.R_reads' HO167.out).2.1)
      (case side3 => repeat (first | exact (Kd.R_reads' HO182.out).2.2 | (with_reducible refine Kd.C_alloc ?_ _) | (with_reducible refine Kd.C_drewN ?_ _) | (with_reducible refine Kd.C_drew ?_)))
      (case side4 => exact (Kd.R_reads' HO182.out).2.1)
      rintro e w137 ⟨rfl, hb⟩
      refine ⟨_, rfl, ?_⟩
      have n0_ := Aside0.mk (Kd.R_below (by (with_reducible repeat (first | apply rA_ | apply rN_ | apply rD_)); exact HO147.out) hb)
      have n1_ := Aside0.mk (Kd.R_below (by (with_reducible repeat (first | apply rA_ | apply rN_ | apply rD_)); exact HO153.out) hb)
      have n2_ := Aside0.mk (Kd.R_below (by (with_reducible repeat (first | apply rA_ | apply rN_ | apply rD_)); exact HO160.out) hb)
      have n3_ := Aside0.mk (Kd.R_below (by (with_reducible repeat (first | apply rA_ | apply rN_ | apply rD_)); exact HO167.out) hb)
      have n4_ := Aside0.mk (Kd.R_below (by (with_reducible repeat (first | apply rA_ | apply rN_ | apply rD_)); exact HO175.out) hb)
      have n5_ := Aside0.mk (Kd.R_below (by (with_reducible repeat (first | apply rA_ | apply rN_ | apply rD_)); exact HO182.out) hb)
      have n6_ := Aside0.mk (bB_ (g := gb138) (o := .cells #[.string a0_0, .string a0_1, .string a0_2, .slice A0_3 l0_3.length c0_3] 35 (0, 0)) (by (with_reducible repeat (first | refine bN_ ?_ _ | refine bD_ ?_ | refine bA_ ?_ _)); exact BK138.out) hb)
      have n7_ := Aside0.mk (bB_ (g := gb139) (o := .cells #[.string a1_0, .string a1_1, .string a1_2, .slice A1_3 l1_3.length c1_3] 35 (0, 0)) (by (with_reducible repeat (first | refine bN_ ?_ _ | refine bD_ ?_ | refine bA_ ?_ _)); exact BK139.out) hb)
      have n8_ := Aside0.mk (bB_ (g := gb161) (o := .cells #[.string t155, .string t156, .string t157, .slice Ao119 t158.length co119] 40 (0, 0)) (by (with_reducible repeat (first | refine bN_ ?_ _ | refine bD_ ?_ | refine bA_ ?_ _)); exact BK161.out) hb)
      have n9_ := Aside0.mk (bB_ (g := gb168) (o := .cells #[.string t162, .string t163, .string t164, .slice Ao127 t165.length co127] 40 (0, 0)) (by (with_reducible repeat (first | refine bN_ ?_ _ | refine bD_ ?_ | refine bA_ ?_ _)); exact BK168.out) hb)
      have n10_ := Aside0.mk (below_step (by repeat (first | (with_reducible first | exact HB.out | apply aB_ | apply pN_ | apply dB_ | refine sB_ ?_ GE138.out | refine sB_ ?_ GE139.out | refine sB_ ?_ GE161.out | refine sB_ ?_ GE168.out) | exact HB.out)) hb)
      clear HO147
      clear HO153
      clear HO160
      clear HO167
      clear HO175
      clear HO182
      clear BK138
      clear BK139
      clear BK161
      clear BK168
      clear HB
      have HO147 := n0_
      have HO153 := n1_
      have HO160 := n2_
      have HO167 := n3_
      have HO175 := n4_
      have HO182 := n5_
      have BK138 := n6_
      have BK139 := n7_
      have BK161 := n8_
      have BK168 := n9_
      have HB := n10_
      clear n0_ n1_ n2_ n3_ n4_ n5_ n6_ n7_ n8_ n9_ n10_
      (try clear hb)
      (try clear hb2)
      (try clear hk)
      (try clear hi)
      refine hK.out _ _ ⟨(bc_ BK168.out 0).trans rfl, (bc_ BK168.out 1).trans rfl, (bc_ BK168.out 2).trans rfl, (bc_ BK168.out 3).trans rfl, (bc_ BK139.out 0).trans rfl, (bc_ BK139.out 1).trans rfl, (bc_ BK139.out 2).trans rfl, (bc_ BK139.out 3).trans rfl⟩ (fun hHeld => ?_)
      clear hK K
      refine norm_ (a' := ?_) ?_ ?_
      rotate_left
      ·show Act.put _ (some 43) _ = _
       simp only [Act.put, List.setIfInBounds_toArray, List.set_cons_zero, List.set_cons_succ, i64_w, i32_w]
       rfl
      refine pure_ (i := 4) (N := some 44) (v := ?_) (a' := ?_) #[true, true, true, true, true] rfl rfl (by kernel_rfl) (fun _ _ _ h => h) (Or.inl ⟨by rfl, ?_⟩) ?_ ?_
      rotate_left
      ·intro w'
       go_simp
       with_reducible rfl
      rotate_left
      ·simp only [Act.put, List.setIfInBounds_toArray, List.set_cons_zero, List.set_cons_succ, i64_w, i32_w]
       rfl
      refine done_ (by kernel_rfl) ?_
      try go_wp2
      go_ret
      exact ⟨by first | rfl | (simp [errW_none, errW_some] <;> rfl) | (simp [*, errW_none, errW_some] <;> rfl), by repeat (first | (with_reducible first | exact HB.out | apply aB_ | apply pN_ | apply dB_ | refine sB_ ?_ GE138.out | refine sB_ ?_ GE139.out | refine sB_ ?_ GE161.out | refine sB_ ?_ GE168.out) | exact HB.out)⟩
    ·replace c58 := Bool.eq_false_iff.mpr c58
     subst c58
     have H1 : (some false) = some r := by rw [if_neg (show ¬ (false = true) by decide)] at H; exact H
     clear H
     have H := H1
     clear H1
     obtain rfl := Option.some.inj H
     go_enter Try.func5, Try.ntmps5
     try go_wp2_with (first | ((with_reducible refine gate_dst (N := 2) rfl ?_); refine box_event ?hg (N := 2) ?hd (cs := #[.string a0_0, .string a0_1, .string a0_2, .slice A0_3 l0_3.length c0_3]) (t := 35) ?hr ?_; (case hd => rfl); (case hg => rfl); (case hr => first | (go_simp; done) | (go_simp; rfl)); intro gb138 hg w138 hbox hb; have n0_ := Aside0.mk (below_step (by repeat (first | (with_reducible first | exact HB.out | apply aB_ | apply pN_ | apply dB_) | exact HB.out)) hb); have n1_ := Aside0.mk (hbox); have n2_ := Aside0.mk ((by rw [hg]; exact (below_size (by repeat (first | (with_reducible first | exact HB.out | apply aB_ | apply pN_ | apply dB_) | exact HB.out))) : w.heap.size ≤ gb138)); have n3_ := Aside0.mk ((by rw [hg]; exact (below_size (by repeat (first | (with_reducible first | exact HB.out | apply aB_ | apply pN_ | apply dB_) | exact HB.out))) : w.heap.size ≤ gb138)); clear HB; have HB := n0_; have BK138 := n1_; have GW138 := n2_; have GE138 := n3_; clear n0_ n1_ n2_ n3_; clear hb hbox hg) | ((with_reducible refine gate_dst (N := 3) rfl ?_); refine box_event ?hg (N := 3) ?hd (cs := #[.string a1_0, .string a1_1, .string a1_2, .slice A1_3 l1_3.length c1_3]) (t := 35) ?hr ?_; (case hd => rfl); (case hg => rfl); (case hr => first | (go_simp; done) | (go_simp; rfl)); intro gb139 hg w139 hbox hb; have n0_ := Aside0.mk (bB_ (g := gb138) (o := .cells #[.string a0_0, .string a0_1, .string a0_2, .slice A0_3 l0_3.length c0_3] 35 (0, 0)) (by (with_reducible repeat (first | refine bN_ ?_ _ | refine bD_ ?_ | refine bA_ ?_ _)); exact BK138.out) hb); have n1_ := Aside0.mk (below_step (by repeat (first | (with_reducible first | exact HB.out | apply aB_ | apply pN_ | apply dB_ | refine sB_ ?_ GE138.out) | exact HB.out)) hb); have n2_ := Aside0.mk (hbox); have n3_ := Aside0.mk ((by rw [hg]; exact (below_size (by repeat (first | (with_reducible first | exact HB.out | apply aB_ | apply pN_ | apply dB_ | refine sB_ ?_ GE138.out) | exact HB.out))) : w.heap.size ≤ gb139)); have n4_ := Aside0.mk ((by rw [hg]; exact (below_size (by repeat (first | (with_reducible first | exact HB.out | apply aB_ | apply pN_ | apply dB_ | refine sB_ ?_ GE138.out) | exact HB.out))) : w.heap.size ≤ gb139)); have n5_ := Aside0.mk ((by rw [hg]; exact Nat.ne_of_lt (blk_lt (g := gb138) (o := .cells #[.string a0_0, .string a0_1, .string a0_2, .slice A0_3 l0_3.length c0_3] 35 (0, 0)) (by (with_reducible repeat (first | refine bN_ ?_ _ | refine bD_ ?_ | refine bA_ ?_ _)); exact BK138.out)) : gb138 ≠ gb139)); have n6_ := Aside0.mk ((by rw [hg]; exact Nat.ne_of_gt (blk_lt (g := gb138) (o := .cells #[.string a0_0, .string a0_1, .string a0_2, .slice A0_3 l0_3.length c0_3] 35 (0, 0)) (by (with_reducible repeat (first | refine bN_ ?_ _ | refine bD_ ?_ | refine bA_ ?_ _)); exact BK138.out)) : gb139 ≠ gb138)); clear BK138; clear HB; have BK138 := n0_; have HB := n1_; have BK139 := n2_; have GW139 := n3_; have GE139 := n4_; have NB138_139 := n5_; have NB139_138 := n6_; clear n0_ n1_ n2_ n3_ n4_ n5_ n6_; clear hb hbox hg; have hnb140 := NB138_139.out; have hnc140 := NB139_138.out; have hcz141_0 : w139.cell? ⟨gb138, 0, none⟩ = some (.string a0_0) := (bc_ BK138.out 0).trans rfl; have hcz141_1 : w139.cell? ⟨gb138, 1, none⟩ = some (.string a0_1) := (bc_ BK138.out 1).trans rfl; have hcz141_2 : w139.cell? ⟨gb138, 2, none⟩ = some (.string a0_2) := (bc_ BK138.out 2).trans rfl; have hcz141_3 : w139.cell? ⟨gb138, 3, none⟩ = some (.slice A0_3 l0_3.length c0_3) := (bc_ BK138.out 3).trans rfl; have hfz141_0 := bF_ BK138.out 0; have hfz141_1 := bF_ BK138.out 1; have hfz141_2 := bF_ BK138.out 2; have hfz141_3 := bF_ BK138.out 3) | ((with_reducible refine gate_callee (f := 22) rfl ?_); refine goesL_ (some 12) rfl rfl Try.func22 (by kernel_rfl) rfl #[.agg #[.string a0_0, .string a0_1, .string a0_2, .slice A0_3 l0_3.length c0_3], .int .i64 1048576] rfl (by (try simp only [List.map_toArray, List.map_cons, List.map_nil]); first | done | rfl | (simp only [List.length_drop, List.length_take]; rfl)) ?_; (with_reducible refine (laws_szNode.calls k a0_0 a0_1 a0_2 _ _ l0_3 1048576 t140 _ ?side1 ?side2 A3.out).mono ?_); (case side1 => repeat (first | exact (Kd.C_below HR0_3.out HB.out) | (with_reducible refine Kd.C_alloc ?_ _) | (with_reducible refine Kd.C_drewN ?_ _) | (with_reducible refine Kd.C_drew ?_))); (case side2 => exact HC0_3.out); rintro e w142 ⟨rfl, hb⟩; refine ⟨_, rfl, ?_⟩; have n0_ := Aside0.mk (bB_ (g := gb138) (o := .cells #[.string a0_0, .string a0_1, .string a0_2, .slice A0_3 l0_3.length c0_3] 35 (0, 0)) (by (with_reducible repeat (first | refine bN_ ?_ _ | refine bD_ ?_ | refine bA_ ?_ _)); exact BK138.out) hb); have n1_ := Aside0.mk (bB_ (g := gb139) (o := .cells #[.string a1_0, .string a1_1, .string a1_2, .slice A1_3 l1_3.length c1_3] 35 (0, 0)) (by (with_reducible repeat (first | refine bN_ ?_ _ | refine bD_ ?_ | refine bA_ ?_ _)); exact BK139.out) hb); have n2_ := Aside0.mk (below_step (by repeat (first | (with_reducible first | exact HB.out | apply aB_ | apply pN_ | apply dB_ | refine sB_ ?_ GE138.out | refine sB_ ?_ GE139.out) | exact HB.out)) hb); clear BK138; clear BK139; clear HB; have BK138 := n0_; have BK139 := n1_; have HB := n2_; clear n0_ n1_ n2_; (try clear hb); (try clear hb2); (try clear hk); (try clear hi); have hcz143_0 : w142.cell? ⟨gb139, 0, none⟩ = some (.string a1_0) := (bc_ BK139.out 0).trans rfl; have hcz143_1 : w142.cell? ⟨gb139, 1, none⟩ = some (.string a1_1) := (bc_ BK139.out 1).trans rfl; have hcz143_2 : w142.cell? ⟨gb139, 2, none⟩ = some (.string a1_2) := (bc_ BK139.out 2).trans rfl; have hcz143_3 : w142.cell? ⟨gb139, 3, none⟩ = some (.slice A1_3 l1_3.length c1_3) := (bc_ BK139.out 3).trans rfl; have hfz143_0 := bF_ BK139.out 0; have hfz143_1 := bF_ BK139.out 1; have hfz143_2 := bF_ BK139.out 2; have hfz143_3 := bF_ BK139.out 3) | ((with_reducible refine gate_callee (f := 22) rfl ?_); refine goesL_ (some 17) rfl rfl Try.func22 (by kernel_rfl) rfl #[.agg #[.string a1_0, .string a1_1, .string a1_2, .slice A1_3 l1_3.length c1_3], .int .i64 t140] rfl (by (try simp only [List.map_toArray, List.map_cons, List.map_nil]); first | done | rfl | (simp only [List.length_drop, List.length_take]; rfl)) ?_; (with_reducible refine (laws_szNode.calls k a1_0 a1_1 a1_2 _ _ l1_3 t140 t141 _ ?side1 ?side2 A10.out).mono ?_); (case side1 => repeat (first | exact (Kd.C_below HR1_3.out HB.out) | (with_reducible refine Kd.C_alloc ?_ _) | (with_reducible refine Kd.C_drewN ?_ _) | (with_reducible refine Kd.C_drew ?_))); (case side2 => exact HC1_3.out); rintro e w144 ⟨rfl, hb⟩; refine ⟨_, rfl, ?_⟩; have n0_ := Aside0.mk (bB_ (g := gb138) (o := .cells #[.string a0_0, .string a0_1, .string a0_2, .slice A0_3 l0_3.length c0_3] 35 (0, 0)) (by (with_reducible repeat (first | refine bN_ ?_ _ | refine bD_ ?_ | refine bA_ ?_ _)); exact BK138.out) hb); have n1_ := Aside0.mk (bB_ (g := gb139) (o := .cells #[.string a1_0, .string a1_1, .string a1_2, .slice A1_3 l1_3.length c1_3] 35 (0, 0)) (by (with_reducible repeat (first | refine bN_ ?_ _ | refine bD_ ?_ | refine bA_ ?_ _)); exact BK139.out) hb); have n2_ := Aside0.mk (below_step (by repeat (first | (with_reducible first | exact HB.out | apply aB_ | apply pN_ | apply dB_ | refine sB_ ?_ GE138.out | refine sB_ ?_ GE139.out) | exact HB.out)) hb); clear BK138; clear BK139; clear HB; have BK138 := n0_; have BK139 := n1_; have HB := n2_; clear n0_ n1_ n2_; (try clear hb); (try clear hb2); (try clear hk); (try clear hi)))
     have n0_ := Aside0.mk (bD_ BK138.out)
     have n1_ := Aside0.mk (bD_ BK139.out)
     have n2_ := Aside0.mk (dB_ HB.out)
     clear BK138
     clear BK139
     clear HB
     have BK138 := n0_
     have BK139 := n1_
     have HB := n2_
     clear n0_ n1_ n2_
     refine start_ (n := 6) (S := fun w' => w'.cell? ⟨gb138, 0, none⟩ = some (.string a0_0) ∧ w'.cell? ⟨gb138, 1, none⟩ = some (.string a0_1) ∧ w'.cell? ⟨gb138, 2, none⟩ = some (.string a0_2) ∧ w'.cell? ⟨gb138, 3, none⟩ = some (.slice A0_3 l0_3.length c0_3) ∧ w'.cell? ⟨gb139, 0, none⟩ = some (.string a1_0) ∧ w'.cell? ⟨gb139, 1, none⟩ = some (.string a1_1) ∧ w'.cell? ⟨gb139, 2, none⟩ = some (.string a1_2) ∧ w'.cell? ⟨gb139, 3, none⟩ = some (.slice A1_3 l1_3.length c1_3)) (ds := []) #[false, false, false, false, false, false] (by kernel_rfl) rfl rfl ⟨(bc_ BK138.out 0).trans rfl, (bc_ BK138.out 1).trans rfl, (bc_ BK138.out 2).trans rfl, (bc_ BK138.out 3).trans rfl, (bc_ BK139.out 0).trans rfl, (bc_ BK139.out 1).trans rfl, (bc_ BK139.out 2).trans rfl, (bc_ BK139.out 3).trans rfl⟩ (fun hHeld => ?_)
     generalize w144.drew = w145 at BK138 BK139 HB hHeld ⊢
     refine take_ (i := 0) (N := some 20) (v := ?_) (a' := ?_) #[true, false, false, false, false, false] rfl rfl (by kernel_rfl) (fun _ _ _ h => h) (Or.inl ⟨by rfl, ?_⟩) hHeld ?_ ?_
     rotate_left
     ·rintro w' ⟨s0, s1, s2, s3, s4, s5, s6, s7⟩
      go_simp
      with_reducible rfl
     rotate_left
     ·simp only [Act.put, List.setIfInBounds_toArray, List.set_cons_zero, List.set_cons_succ, i64_w, i32_w]
      rfl
     refine take_ (i := 2) (N := some 22) (v := ?_) (a' := ?_) #[true, false, true, false, false, false] rfl rfl (by kernel_rfl) (fun _ _ _ h => h) (Or.inl ⟨by rfl, ?_⟩) hHeld ?_ ?_
     rotate_left
     ·rintro w' ⟨s0, s1, s2, s3, s4, s5, s6, s7⟩
      go_simp
      with_reducible rfl
     rotate_left
     ·simp only [Act.put, List.setIfInBounds_toArray, List.set_cons_zero, List.set_cons_succ, i64_w, i32_w]
      rfl
     refine one_ (i := 1) (N := some 21) #[true, true, true, false, false, false] rfl rfl (by kernel_rfl) (by decide) (fun K hK => ?_)
     refine goes_ Try.func24 (by kernel_rfl) rfl #[.agg #[.string a0_0, .string a0_1, .string a0_2, .slice A0_3 l0_3.length c0_3]] (by rfl) rfl rfl (by (try simp only [List.map_toArray, List.map_cons, List.map_nil]); first | done | rfl | (simp only [List.length_drop, List.length_take]; rfl)) ?_
     with_reducible refine (laws_toNode.calls k a0_0 a0_1 a0_2 _ _ l0_3 t142 t143 t144 t145 _ ?side1 ?side2 A19.out).mono ?_
     (case side1 => repeat (first | exact (Kd.C_below HR0_3.out HB.out) | (with_reducible refine Kd.C_alloc ?_ _) | (with_reducible refine Kd.C_drewN ?_ _) | (with_reducible refine Kd.C_drew ?_)))
     (case side2 => exact HC0_3.out)
     rintro e w146 ⟨v146, rfl, ho0, hb⟩
     refine ⟨_, rfl, ?_⟩
     have n0_ := Aside0.mk (Kd.R_lower ho0 (below_size (by repeat (first | (with_reducible first | exact HB.out | apply aB_ | apply pN_ | apply dB_ | refine sB_ ?_ GE138.out | refine sB_ ?_ GE139.out) | exact HB.out))))
     have n1_ := Aside0.mk (bB_ (g := gb138) (o := .cells #[.string a0_0, .string a0_1, .string a0_2, .slice A0_3 l0_3.length c0_3] 35 (0, 0)) (by (with_reducible repeat (first | refine bN_ ?_ _ | refine bD_ ?_ | refine bA_ ?_ _)); exact BK138.out) hb)
     have n2_ := Aside0.mk (bB_ (g := gb139) (o := .cells #[.string a1_0, .string a1_1, .string a1_2, .slice A1_3 l1_3.length c1_3] 35 (0, 0)) (by (with_reducible repeat (first | refine bN_ ?_ _ | refine bD_ ?_ | refine bA_ ?_ _)); exact BK139.out) hb)
     have n3_ := Aside0.mk (below_step (by repeat (first | (with_reducible first | exact HB.out | apply aB_ | apply pN_ | apply dB_ | refine sB_ ?_ GE138.out | refine sB_ ?_ GE139.out) | exact HB.out)) hb)
     clear BK138
     clear BK139
     clear HB
     have HO147 := n0_
     have BK138 := n1_
     have BK139 := n2_
     have HB := n3_
     clear n0_ n1_ n2_ n3_
     (try clear hb)
     (try clear hb2)
     (try clear hk)
     (try clear hi)
     (try clear ho0)
     refine hK.out _ _ ⟨(bc_ BK138.out 0).trans rfl, (bc_ BK138.out 1).trans rfl, (bc_ BK138.out 2).trans rfl, (bc_ BK138.out 3).trans rfl, (bc_ BK139.out 0).trans rfl, (bc_ BK139.out 1).trans rfl, (bc_ BK139.out 2).trans rfl, (bc_ BK139.out 3).trans rfl⟩ (fun hHeld => ?_)
     clear hK K
     refine norm_ (a' := ?_) ?_ ?_
     rotate_left
     ·show Act.put _ (some 21) _ = _
      simp only [Act.put, List.setIfInBounds_toArray, List.set_cons_zero, List.set_cons_succ, i64_w, i32_w]
      rfl
     refine one_ (i := 3) (N := some 23) #[true, true, true, true, false, false] rfl rfl (by kernel_rfl) (by decide) (fun K hK => ?_)
     refine goes_ Try.func24 (by kernel_rfl) rfl #[.agg #[.string a1_0, .string a1_1, .string a1_2, .slice A1_3 l1_3.length c1_3]] (by rfl) rfl rfl (by (try simp only [List.map_toArray, List.map_cons, List.map_nil]); first | done | rfl | (simp only [List.length_drop, List.length_take]; rfl)) ?_
     with_reducible refine (laws_toNode.calls k a1_0 a1_1 a1_2 _ _ l1_3 t148 t149 t150 t151 _ ?side1 ?side2 A20.out).mono ?_
     (case side1 => repeat (first | exact (Kd.C_below HR1_3.out HB.out) | (with_reducible refine Kd.C_alloc ?_ _) | (with_reducible refine Kd.C_drewN ?_ _) | (with_reducible refine Kd.C_drew ?_)))
     (case side2 => exact HC1_3.out)
     rintro e w147 ⟨v152, rfl, ho0, hb⟩
     refine ⟨_, rfl, ?_⟩
     have n0_ := Aside0.mk (Kd.R_elder' (by (with_reducible repeat (first | apply rA_ | apply rN_ | apply rD_)); exact HO147.out) (Kd.R_base ho0) hb)
     have n1_ := Aside0.mk (Kd.R_lower (Kd.R_new' ho0 (Kd.R_lt (by (with_reducible repeat (first | apply rA_ | apply rN_ | apply rD_)); exact HO147.out))) (below_size (by repeat (first | (with_reducible first | exact HB.out | apply aB_ | apply pN_ | apply dB_ | refine sB_ ?_ GE138.out | refine sB_ ?_ GE139.out) | exact HB.out))))
     have n2_ := Aside0.mk (bB_ (g := gb138) (o := .cells #[.string a0_0, .string a0_1, .string a0_2, .slice A0_3 l0_3.length c0_3] 35 (0, 0)) (by (with_reducible repeat (first | refine bN_ ?_ _ | refine bD_ ?_ | refine bA_ ?_ _)); exact BK138.out) hb)
     have n3_ := Aside0.mk (bB_ (g := gb139) (o := .cells #[.string a1_0, .string a1_1, .string a1_2, .slice A1_3 l1_3.length c1_3] 35 (0, 0)) (by (with_reducible repeat (first | refine bN_ ?_ _ | refine bD_ ?_ | refine bA_ ?_ _)); exact BK139.out) hb)
     have n4_ := Aside0.mk (below_step (by repeat (first | (with_reducible first | exact HB.out | apply aB_ | apply pN_ | apply dB_ | refine sB_ ?_ GE138.out | refine sB_ ?_ GE139.out) | exact HB.out)) hb)
     clear HO147
     clear BK138
     clear BK139
     clear HB
     have HO147 := n0_
     have HO153 := n1_
     have BK138 := n2_
     have BK139 := n3_
     have HB := n4_
     clear n0_ n1_ n2_ n3_ n4_
     (try clear hb)
     (try clear hb2)
     (try clear hk)
     (try clear hi)
     (try clear ho0)
     obtain ⟨Ao148, co148, eo148⟩ := Kd.R_slice HO147.out
     (first | subst eo148 | (injection eo148 with f1_ f2_ f3_; have f4_ := f1_.symm; have f5_ := f3_.symm; clear f1_ f2_ f3_; subst f4_; subst f5_))
     obtain ⟨Ao149, co149, eo149⟩ := Kd.R_slice HO153.out
     (first | subst eo149 | (injection eo149 with f1_ f2_ f3_; have f4_ := f1_.symm; have f5_ := f3_.symm; clear f1_ f2_ f3_; subst f4_; subst f5_))
     refine hK.out _ _ ⟨(bc_ BK138.out 0).trans rfl, (bc_ BK138.out 1).trans rfl, (bc_ BK138.out 2).trans rfl, (bc_ BK138.out 3).trans rfl, (bc_ BK139.out 0).trans rfl, (bc_ BK139.out 1).trans rfl, (bc_ BK139.out 2).trans rfl, (bc_ BK139.out 3).trans rfl⟩ (fun hHeld => ?_)
     clear hK K
     refine norm_ (a' := ?_) ?_ ?_
     rotate_left
     ·show Act.put _ (some 23) _ = _
      simp only [Act.put, List.setIfInBounds_toArray, List.set_cons_zero, List.set_cons_succ, i64_w, i32_w]
      rfl
     refine one_ (i := 4) (N := some 24) #[true, true, true, true, true, false] rfl rfl (by kernel_rfl) (by decide) (fun K hK => ?_)
     refine goes_ Try.func23 (by kernel_rfl) rfl #[.agg #[.string t142, .string t143, .string t144, .slice Ao148 t145.length co148], .agg #[.string t148, .string t149, .string t150, .slice Ao149 t151.length co149]] (by rfl) rfl rfl (by (try simp only [List.map_toArray, List.map_cons, List.map_nil]); first | done | rfl | (simp only [List.length_drop, List.length_take]; rfl)) ?_
     with_reducible refine (spec_SameNode.calls k t142 t143 t144 _ _ t145 t148 t149 t150 _ _ t151 t154 _ ?side1 ?side2 ?side3 ?side4 A21.out).mono ?_
     (case side1 => repeat (first | exact (Kd.R_reads' HO147.out).2.2 | (with_reducible refine Kd.C_alloc ?_ _) | (with_reducible refine Kd.C_drewN ?_ _) | (with_reducible refine Kd.C_drew ?_)))
     (case side2 => exact (Kd.R_reads' HO147.out).2.1)
     (case side3 => repeat (first | exact (Kd.R_reads' HO153.out).2.2 | (with_reducible refine Kd.C_alloc ?_ _) | (with_reducible refine Kd.C_drewN ?_ _) | (with_reducible refine Kd.C_drew ?_)))
     (case side4 => exact (Kd.R_reads' HO153.out).2.1)
     rintro e w150 ⟨rfl, hb⟩
     refine ⟨_, rfl, ?_⟩
     have n0_ := Aside0.mk (Kd.R_below (by (with_reducible repeat (first | apply rA_ | apply rN_ | apply rD_)); exact HO147.out) hb)
     have n1_ := Aside0.mk (Kd.R_below (by (with_reducible repeat (first | apply rA_ | apply rN_ | apply rD_)); exact HO153.out) hb)
     have n2_ := Aside0.mk (bB_ (g := gb138) (o := .cells #[.string a0_0, .string a0_1, .string a0_2, .slice A0_3 l0_3.length c0_3] 35 (0, 0)) (by (with_reducible repeat (first | refine bN_ ?_ _ | refine bD_ ?_ | refine bA_ ?_ _)); exact BK138.out) hb)
     have n3_ := Aside0.mk (bB_ (g := gb139) (o := .cells #[.string a1_0, .string a1_1, .string a1_2, .slice A1_3 l1_3.length c1_3] 35 (0, 0)) (by (with_reducible repeat (first | refine bN_ ?_ _ | refine bD_ ?_ | refine bA_ ?_ _)); exact BK139.out) hb)
     have n4_ := Aside0.mk (below_step (by repeat (first | (with_reducible first | exact HB.out | apply aB_ | apply pN_ | apply dB_ | refine sB_ ?_ GE138.out | refine sB_ ?_ GE139.out) | exact HB.out)) hb)
     clear HO147
     clear HO153
     clear BK138
     clear BK139
     clear HB
     have HO147 := n0_
     have HO153 := n1_
     have BK138 := n2_
     have BK139 := n3_
     have HB := n4_
     clear n0_ n1_ n2_ n3_ n4_
     (try clear hb)
     (try clear hb2)
     (try clear hk)
     (try clear hi)
     refine hK.out _ _ ⟨(bc_ BK138.out 0).trans rfl, (bc_ BK138.out 1).trans rfl, (bc_ BK138.out 2).trans rfl, (bc_ BK138.out 3).trans rfl, (bc_ BK139.out 0).trans rfl, (bc_ BK139.out 1).trans rfl, (bc_ BK139.out 2).trans rfl, (bc_ BK139.out 3).trans rfl⟩ (fun hHeld => ?_)
     clear hK K
     refine norm_ (a' := ?_) ?_ ?_
     rotate_left
     ·show Act.put _ (some 24) _ = _
      simp only [Act.put, List.setIfInBounds_toArray, List.set_cons_zero, List.set_cons_succ, i64_w, i32_w]
      rfl
     refine pure_ (i := 5) (N := some 6) (v := ?_) (a' := ?_) #[true, true, true, true, true, true] rfl rfl (by kernel_rfl) (fun _ _ _ h => h) (Or.inl ⟨by rfl, ?_⟩) ?_ ?_
     rotate_left
     ·intro w'
      go_simp
      with_reducible rfl
     rotate_left
     ·simp only [Act.put, List.setIfInBounds_toArray, List.set_cons_zero, List.set_cons_succ, i64_w, i32_w]
      rfl
     refine done_ (by kernel_rfl) ?_
     have hcz151_0 : w150.cell? ⟨gb138, 0, none⟩ = some (.string a0_0) := (bc_ BK138.out 0).trans rfl
     have hcz151_1 : w150.cell? ⟨gb138, 1, none⟩ = some (.string a0_1) := (bc_ BK138.out 1).trans rfl
     have hcz151_2 : w150.cell? ⟨gb138, 2, none⟩ = some (.string a0_2) := (bc_ BK138.out 2).trans rfl
     have hcz151_3 : w150.cell? ⟨gb138, 3, none⟩ = some (.slice A0_3 l0_3.length c0_3) := (bc_ BK138.out 3).trans rfl
     have hfz151_0 := bF_ BK138.out 0
     have hfz151_1 := bF_ BK138.out 1
     have hfz151_2 := bF_ BK138.out 2
     have hfz151_3 := bF_ BK138.out 3
     try go_wp2_with (first | ((with_reducible refine gate_callee (f := 24) rfl ?_); refine goesL_ (some 26) rfl rfl Try.func24 (by kernel_rfl) rfl #[.agg #[.string a0_0, .string a0_1, .string a0_2, .slice A0_3 l0_3.length c0_3]] rfl (by (try simp only [List.map_toArray, List.map_cons, List.map_nil]); first | done | rfl | (simp only [List.length_drop, List.length_take]; rfl)) ?_; (with_reducible refine (laws_toNode.calls k a0_0 a0_1 a0_2 _ _ l0_3 t155 t156 t157 t158 _ ?side1 ?side2 A22.out).mono ?_); (case side1 => repeat (first | exact (Kd.C_below HR0_3.out HB.out) | (with_reducible refine Kd.C_alloc ?_ _) | (with_reducible refine Kd.C_drewN ?_ _) | (with_reducible refine Kd.C_drew ?_))); (case side2 => exact HC0_3.out); rintro e w152 ⟨v159, rfl, ho0, hb⟩; refine ⟨_, rfl, ?_⟩; have n0_ := Aside0.mk (Kd.R_elder' (by (with_reducible repeat (first | apply rA_ | apply rN_ | apply rD_)); exact HO147.out) (Kd.R_base ho0) hb); have n1_ := Aside0.mk (Kd.R_elder' (by (with_reducible repeat (first | apply rA_ | apply rN_ | apply rD_)); exact HO153.out) (Kd.R_base ho0) hb); have n2_ := Aside0.mk (Kd.R_lower (Kd.R_new' (Kd.R_new' ho0 (Kd.R_lt (by (with_reducible repeat (first | apply rA_ | apply rN_ | apply rD_)); exact HO147.out))) (Kd.R_lt (by (with_reducible repeat (first | apply rA_ | apply rN_ | apply rD_)); exact HO153.out))) (below_size (by repeat (first | (with_reducible first | exact HB.out | apply aB_ | apply pN_ | apply dB_ | refine sB_ ?_ GE138.out | refine sB_ ?_ GE139.out) | exact HB.out)))); have n3_ := Aside0.mk (bB_ (g := gb138) (o := .cells #[.string a0_0, .string a0_1, .string a0_2, .slice A0_3 l0_3.length c0_3] 35 (0, 0)) (by (with_reducible repeat (first | refine bN_ ?_ _ | refine bD_ ?_ | refine bA_ ?_ _)); exact BK138.out) hb); have n4_ := Aside0.mk (bB_ (g := gb139) (o := .cells #[.string a1_0, .string a1_1, .string a1_2, .slice A1_3 l1_3.length c1_3] 35 (0, 0)) (by (with_reducible repeat (first | refine bN_ ?_ _ | refine bD_ ?_ | refine bA_ ?_ _)); exact BK139.out) hb); have n5_ := Aside0.mk (below_step (by repeat (first | (with_reducible first | exact HB.out | apply aB_ | apply pN_ | apply dB_ | refine sB_ ?_ GE138.out | refine sB_ ?_ GE139.out) | exact HB.out)) hb); clear HO147; clear HO153; clear BK138; clear BK139; clear HB; have HO147 := n0_; have HO153 := n1_; have HO160 := n2_; have BK138 := n3_; have BK139 := n4_; have HB := n5_; clear n0_ n1_ n2_ n3_ n4_ n5_; (try clear hb); (try clear hb2); (try clear hk); (try clear hi); (try clear ho0)) | ((with_reducible refine gate_dst (N := 7) rfl ?_); refine box_event ?hg (N := 7) ?hd (cs := #[.string (⟨#[]⟩ : ByteArray), .string (⟨#[]⟩ : ByteArray), .string (⟨#[]⟩ : ByteArray), .slice none 0 0]) (t := 40) ?hr ?_; (case hd => rfl); (case hg => rfl); (case hr => first | (go_simp; done) | (go_simp; rfl)); intro gb161 hg w153 hbox hb; have n0_ := Aside0.mk (Kd.R_below (Kd.R_elderB (by (with_reducible repeat (first | apply rA_ | apply rN_ | apply rD_)); exact HO147.out) gb161 (Nat.le_of_eq hg.symm)) hb); have n1_ := Aside0.mk (Kd.R_below (Kd.R_elderB (by (with_reducible repeat (first | apply rA_ | apply rN_ | apply rD_)); exact HO153.out) gb161 (Nat.le_of_eq hg.symm)) hb); have n2_ := Aside0.mk (Kd.R_below (Kd.R_elderB (by (with_reducible repeat (first | apply rA_ | apply rN_ | apply rD_)); exact HO160.out) gb161 (Nat.le_of_eq hg.symm)) hb); have n3_ := Aside0.mk (bB_ (g := gb138) (o := .cells #[.string a0_0, .string a0_1, .string a0_2, .slice A0_3 l0_3.length c0_3] 35 (0, 0)) (by (with_reducible repeat (first | refine bN_ ?_ _ | refine bD_ ?_ | refine bA_ ?_ _)); exact BK138.out) hb); have n4_ := Aside0.mk (bB_ (g := gb139) (o := .cells #[.string a1_0, .string a1_1, .string a1_2, .slice A1_3 l1_3.length c1_3] 35 (0, 0)) (by (with_reducible repeat (first | refine bN_ ?_ _ | refine bD_ ?_ | refine bA_ ?_ _)); exact BK139.out) hb); have n5_ := Aside0.mk (below_step (by repeat (first | (with_reducible first | exact HB.out | apply aB_ | apply pN_ | apply dB_ | refine sB_ ?_ GE138.out | refine sB_ ?_ GE139.out) | exact HB.out)) hb); have n6_ := Aside0.mk (hbox); have n7_ := Aside0.mk ((by rw [hg]; exact (below_size (by repeat (first | (with_reducible first | exact HB.out | apply aB_ | apply pN_ | apply dB_ | refine sB_ ?_ GE138.out | refine sB_ ?_ GE139.out) | exact HB.out))) : w.heap.size ≤ gb161)); have n8_ := Aside0.mk ((by rw [hg]; exact (below_size (by repeat (first | (with_reducible first | exact HB.out | apply aB_ | apply pN_ | apply dB_ | refine sB_ ?_ GE138.out | refine sB_ ?_ GE139.out) | exact HB.out))) : w.heap.size ≤ gb161)); have n9_ := Aside0.mk ((by rw [hg]; exact Nat.ne_of_lt (blk_lt (g := gb138) (o := .cells #[.string a0_0, .string a0_1, .string a0_2, .slice A0_3 l0_3.length c0_3] 35 (0, 0)) (by (with_reducible repeat (first | refine bN_ ?_ _ | refine bD_ ?_ | refine bA_ ?_ _)); exact BK138.out)) : gb138 ≠ gb161)); have n10_ := Aside0.mk ((by rw [hg]; exact Nat.ne_of_gt (blk_lt (g := gb138) (o := .cells #[.string a0_0, .string a0_1, .string a0_2, .slice A0_3 l0_3.length c0_3] 35 (0, 0)) (by (with_reducible repeat (first | refine bN_ ?_ _ | refine bD_ ?_ | refine bA_ ?_ _)); exact BK138.out)) : gb161 ≠ gb138)); have n11_ := Aside0.mk ((by rw [hg]; exact Nat.ne_of_lt (blk_lt (g := gb139) (o := .cells #[.string a1_0, .string a1_1, .string a1_2, .slice A1_3 l1_3.length c1_3] 35 (0, 0)) (by (with_reducible repeat (first | refine bN_ ?_ _ | refine bD_ ?_ | refine bA_ ?_ _)); exact BK139.out)) : gb139 ≠ gb161)); have n12_ := Aside0.mk ((by rw [hg]; exact Nat.ne_of_gt (blk_lt (g := gb139) (o := .cells #[.string a1_0, .string a1_1, .string a1_2, .slice A1_3 l1_3.length c1_3] 35 (0, 0)) (by (with_reducible repeat (first | refine bN_ ?_ _ | refine bD_ ?_ | refine bA_ ?_ _)); exact BK139.out)) : gb161 ≠ gb139)); clear HO147; clear HO153; clear HO160; clear BK138; clear BK139; clear HB; have HO147 := n0_; have HO153 := n1_; have HO160 := n2_; have BK138 := n3_; have BK139 := n4_; have HB := n5_; have BK161 := n6_; have GW161 := n7_; have GE161 := n8_; have NB138_161 := n9_; have NB161_138 := n10_; have NB139_161 := n11_; have NB161_139 := n12_; clear n0_ n1_ n2_ n3_ n4_ n5_ n6_ n7_ n8_ n9_ n10_ n11_ n12_; clear hb hbox hg; have hnb154 := NB161_138.out; have hnc154 := NB138_161.out; have hnb155 := NB161_139.out; have hnc155 := NB139_161.out; have hcz156_0 : w153.cell? ⟨gb161, 0, none⟩ = some (.string (⟨#[]⟩ : ByteArray)) := (bc_ BK161.out 0).trans rfl; have hcz156_1 : w153.cell? ⟨gb161, 1, none⟩ = some (.string (⟨#[]⟩ : ByteArray)) := (bc_ BK161.out 1).trans rfl; have hcz156_2 : w153.cell? ⟨gb161, 2, none⟩ = some (.string (⟨#[]⟩ : ByteArray)) := (bc_ BK161.out 2).trans rfl; have hcz156_3 : w153.cell? ⟨gb161, 3, none⟩ = some (.slice none 0 0) := (bc_ BK161.out 3).trans rfl; have hfz156_0 := bF_ BK161.out 0; have hfz156_1 := bF_ BK161.out 1; have hfz156_2 := bF_ BK161.out 2; have hfz156_3 := bF_ BK161.out 3; obtain ⟨Ao157, co157, eo157⟩ := Kd.R_slice HO160.out; subst eo157; have hcz158_0 : w153.cell? ⟨gb139, 0, none⟩ = some (.string a1_0) := (bc_ BK139.out 0).trans rfl; have hcz158_1 : w153.cell? ⟨gb139, 1, none⟩ = some (.string a1_1) := (bc_ BK139.out 1).trans rfl; have hcz158_2 : w153.cell? ⟨gb139, 2, none⟩ = some (.string a1_2) := (bc_ BK139.out 2).trans rfl; have hcz158_3 : w153.cell? ⟨gb139, 3, none⟩ = some (.slice A1_3 l1_3.length c1_3) := (bc_ BK139.out 3).trans rfl; have hfz158_0 := bF_ BK139.out 0; have hfz158_1 := bF_ BK139.out 1; have hfz158_2 := bF_ BK139.out 2; have hfz158_3 := bF_ BK139.out 3) | ((with_reducible refine gate_callee (f := 24) rfl ?_); refine goesL_ (some 28) rfl rfl Try.func24 (by kernel_rfl) rfl #[.agg #[.string a1_0, .string a1_1, .string a1_2, .slice A1_3 l1_3.length c1_3]] rfl (by (try simp only [List.map_toArray, List.map_cons, List.map_nil]); first | done | rfl | (simp only [List.length_drop, List.length_take]; rfl)) ?_; (with_reducible refine (laws_toNode.calls k a1_0 a1_1 a1_2 _ _ l1_3 t162 t163 t164 t165 _ ?side1 ?side2 A23.out).mono ?_); (case side1 => exact Kd.C_below HR1_3.out (by repeat (first | (with_reducible first | exact HB.out | apply aB_ | apply pN_ | apply dB_ | refine sB_ ?_ GE138.out | refine sB_ ?_ GE139.out | refine sB_ ?_ GE161.out) | exact HB.out))); (case side2 => exact HC1_3.out); rintro e w159 ⟨v166, rfl, ho0, hb⟩; refine ⟨_, rfl, ?_⟩; have n0_ := Aside0.mk (Kd.R_elder' (by (with_reducible repeat (first | apply rA_ | apply rN_ | apply rD_)); exact (Kd.R_mono (rF_ (p := ⟨gb161, 3, none⟩) (rF_ (p := ⟨gb161, 2, none⟩) (rF_ (p := ⟨gb161, 1, none⟩) (rF_ (p := ⟨gb161, 0, none⟩) (Kd.R_mono HO147.out (fun k_ hk => (⟨hk, hk.2⟩ : _ ∧ k_ ≠ gb161))) (fun _ hk => hk.2) (.string t155)) (fun _ hk => hk.2) (.string t156)) (fun _ hk => hk.2) (.string t157)) (fun _ hk => hk.2) (.slice Ao157 t158.length co157)) (fun _ h_ => h_.1))) (Kd.R_base ho0) hb); have n1_ := Aside0.mk (Kd.R_elder' (by (with_reducible repeat (first | apply rA_ | apply rN_ | apply rD_)); exact (Kd.R_mono (rF_ (p := ⟨gb161, 3, none⟩) (rF_ (p := ⟨gb161, 2, none⟩) (rF_ (p := ⟨gb161, 1, none⟩) (rF_ (p := ⟨gb161, 0, none⟩) (Kd.R_mono HO153.out (fun k_ hk => (⟨hk, hk.2⟩ : _ ∧ k_ ≠ gb161))) (fun _ hk => hk.2) (.string t155)) (fun _ hk => hk.2) (.string t156)) (fun _ hk => hk.2) (.string t157)) (fun _ hk => hk.2) (.slice Ao157 t158.length co157)) (fun _ h_ => h_.1))) (Kd.R_base ho0) hb); have n2_ := Aside0.mk (Kd.R_elder' (by (with_reducible repeat (first | apply rA_ | apply rN_ | apply rD_)); exact (Kd.R_mono (rF_ (p := ⟨gb161, 3, none⟩) (rF_ (p := ⟨gb161, 2, none⟩) (rF_ (p := ⟨gb161, 1, none⟩) (rF_ (p := ⟨gb161, 0, none⟩) (Kd.R_mono HO160.out (fun k_ hk => (⟨hk, hk.2⟩ : _ ∧ k_ ≠ gb161))) (fun _ hk => hk.2) (.string t155)) (fun _ hk => hk.2) (.string t156)) (fun _ hk => hk.2) (.string t157)) (fun _ hk => hk.2) (.slice Ao157 t158.length co157)) (fun _ h_ => h_.1))) (Kd.R_base ho0) hb); have n3_ := Aside0.mk (Kd.R_lower (Kd.R_newB (Kd.R_new' (Kd.R_new' (Kd.R_new' ho0 (Kd.R_lt (by (with_reducible repeat (first | apply rA_ | apply rN_ | apply rD_)); exact (Kd.R_mono (rF_ (p := ⟨gb161, 3, none⟩) (rF_ (p := ⟨gb161, 2, none⟩) (rF_ (p := ⟨gb161, 1, none⟩) (rF_ (p := ⟨gb161, 0, none⟩) (Kd.R_mono HO147.out (fun k_ hk => (⟨hk, hk.2⟩ : _ ∧ k_ ≠ gb161))) (fun _ hk => hk.2) (.string t155)) (fun _ hk => hk.2) (.string t156)) (fun _ hk => hk.2) (.string t157)) (fun _ hk => hk.2) (.slice Ao157 t158.length co157)) (fun _ h_ => h_.1))))) (Kd.R_lt (by (with_reducible repeat (first | apply rA_ | apply rN_ | apply rD_)); exact (Kd.R_mono (rF_ (p := ⟨gb161, 3, none⟩) (rF_ (p := ⟨gb161, 2, none⟩) (rF_ (p := ⟨gb161, 1, none⟩) (rF_ (p := ⟨gb161, 0, none⟩) (Kd.R_mono HO153.out (fun k_ hk => (⟨hk, hk.2⟩ : _ ∧ k_ ≠ gb161))) (fun _ hk => hk.2) (.string t155)) (fun _ hk => hk.2) (.string t156)) (fun _ hk => hk.2) (.string t157)) (fun _ hk => hk.2) (.slice Ao157 t158.length co157)) (fun _ h_ => h_.1))))) (Kd.R_lt (by (with_reducible repeat (first | apply rA_ | apply rN_ | apply rD_)); exact (Kd.R_mono (rF_ (p := ⟨gb161, 3, none⟩) (rF_ (p := ⟨gb161, 2, none⟩) (rF_ (p := ⟨gb161, 1, none⟩) (rF_ (p := ⟨gb161, 0, none⟩) (Kd.R_mono HO160.out (fun k_ hk => (⟨hk, hk.2⟩ : _ ∧ k_ ≠ gb161))) (fun _ hk => hk.2) (.string t155)) (fun _ hk => hk.2) (.string t156)) (fun _ hk => hk.2) (.string t157)) (fun _ hk => hk.2) (.slice Ao157 t158.length co157)) (fun _ h_ => h_.1))))) (g := gb161) (o := .cells #[.string t155, .string t156, .string t157, .slice Ao157 t158.length co157] 40 (0, 0)) (by (with_reducible repeat (first | refine bN_ ?_ _ | refine bD_ ?_ | refine bA_ ?_ _)); refine blk_put (cs := #[.string t155, .string t156, .string t157, .slice none 0 0]) ?_ 3 _ rfl; (with_reducible repeat (first | refine bN_ ?_ _ | refine bD_ ?_ | refine bA_ ?_ _)); refine blk_put (cs := #[.string t155, .string t156, .string (⟨#[]⟩ : ByteArray), .slice none 0 0]) ?_ 2 _ rfl; (with_reducible repeat (first | refine bN_ ?_ _ | refine bD_ ?_ | refine bA_ ?_ _)); refine blk_put (cs := #[.string t155, .string (⟨#[]⟩ : ByteArray), .string (⟨#[]⟩ : ByteArray), .slice none 0 0]) ?_ 1 _ rfl; (with_reducible repeat (first | refine bN_ ?_ _ | refine bD_ ?_ | refine bA_ ?_ _)); refine blk_put (cs := #[.string (⟨#[]⟩ : ByteArray), .string (⟨#[]⟩ : ByteArray), .string (⟨#[]⟩ : ByteArray), .slice none 0 0]) ?_ 0 _ rfl; (with_reducible repeat (first | refine bN_ ?_ _ | refine bD_ ?_ | refine bA_ ?_ _)); exact BK161.out)) (below_size (by repeat (first | (with_reducible first | exact HB.out | apply aB_ | apply pN_ | apply dB_ | refine sB_ ?_ GE138.out | refine sB_ ?_ GE139.out | refine sB_ ?_ GE161.out) | exact HB.out)))); have n4_ := Aside0.mk (bB_ (g := gb138) (o := .cells #[.string a0_0, .string a0_1, .string a0_2, .slice A0_3 l0_3.length c0_3] 35 (0, 0)) (by (with_reducible repeat (first | refine bN_ ?_ _ | refine bD_ ?_ | refine bA_ ?_ _)); refine blk_far ?_ NB138_161.out _; (with_reducible repeat (first | refine bN_ ?_ _ | refine bD_ ?_ | refine bA_ ?_ _)); refine blk_far ?_ NB138_161.out _; (with_reducible repeat (first | refine bN_ ?_ _ | refine bD_ ?_ | refine bA_ ?_ _)); refine blk_far ?_ NB138_161.out _; (with_reducible repeat (first | refine bN_ ?_ _ | refine bD_ ?_ | refine bA_ ?_ _)); refine blk_far ?_ NB138_161.out _; (with_reducible repeat (first | refine bN_ ?_ _ | refine bD_ ?_ | refine bA_ ?_ _)); exact BK138.out) hb); have n5_ := Aside0.mk (bB_ (g := gb139) (o := .cells #[.string a1_0, .string a1_1, .string a1_2, .slice A1_3 l1_3.length c1_3] 35 (0, 0)) (by (with_reducible repeat (first | refine bN_ ?_ _ | refine bD_ ?_ | refine bA_ ?_ _)); refine blk_far ?_ NB139_161.out _; (with_reducible repeat (first | refine bN_ ?_ _ | refine bD_ ?_ | refine bA_ ?_ _)); refine blk_far ?_ NB139_161.out _; (with_reducible repeat (first | refine bN_ ?_ _ | refine bD_ ?_ | refine bA_ ?_ _)); refine blk_far ?_ NB139_161.out _; (with_reducible repeat (first | refine bN_ ?_ _ | refine bD_ ?_ | refine bA_ ?_ _)); refine blk_far ?_ NB139_161.out _; (with_reducible repeat (first | refine bN_ ?_ _ | refine bD_ ?_ | refine bA_ ?_ _)); exact BK139.out) hb); have n6_ := Aside0.mk (bB_ (g := gb161) (o := .cells #[.string t155, .string t156, .string t157, .slice Ao157 t158.length co157] 40 (0, 0)) (by (with_reducible repeat (first | refine bN_ ?_ _ | refine bD_ ?_ | refine bA_ ?_ _)); refine blk_put (cs := #[.string t155, .string t156, .string t157, .slice none 0 0]) ?_ 3 _ rfl; (with_reducible repeat (first | refine bN_ ?_ _ | refine bD_ ?_ | refine bA_ ?_ _)); refine blk_put (cs := #[.string t155, .string t156, .string (⟨#[]⟩ : ByteArray), .slice none 0 0]) ?_ 2 _ rfl; (with_reducible repeat (first | refine bN_ ?_ _ | refine bD_ ?_ | refine bA_ ?_ _)); refine blk_put (cs := #[.string t155, .string (⟨#[]⟩ : ByteArray), .string (⟨#[]⟩ : ByteArray), .slice none 0 0]) ?_ 1 _ rfl; (with_reducible repeat (first | refine bN_ ?_ _ | refine bD_ ?_ | refine bA_ ?_ _)); refine blk_put (cs := #[.string (⟨#[]⟩ : ByteArray), .string (⟨#[]⟩ : ByteArray), .string (⟨#[]⟩ : ByteArray), .slice none 0 0]) ?_ 0 _ rfl; (with_reducible repeat (first | refine bN_ ?_ _ | refine bD_ ?_ | refine bA_ ?_ _)); exact BK161.out) hb); have n7_ := Aside0.mk (below_step (by repeat (first | (with_reducible first | exact HB.out | apply aB_ | apply pN_ | apply dB_ | refine sB_ ?_ GE138.out | refine sB_ ?_ GE139.out | refine sB_ ?_ GE161.out) | exact HB.out)) hb); clear HO147; clear HO153; clear HO160; clear BK138; clear BK139; clear BK161; clear HB; have HO147 := n0_; have HO153 := n1_; have HO160 := n2_; have HO167 := n3_; have BK138 := n4_; have BK139 := n5_; have BK161 := n6_; have HB := n7_; clear n0_ n1_ n2_ n3_ n4_ n5_ n6_ n7_; (try clear hb); (try clear hb2); (try clear hk); (try clear hi); (try clear ho0)) | ((with_reducible refine gate_dst (N := 8) rfl ?_); refine box_event ?hg (N := 8) ?hd (cs := #[.string (⟨#[]⟩ : ByteArray), .string (⟨#[]⟩ : ByteArray), .string (⟨#[]⟩ : ByteArray), .slice none 0 0]) (t := 40) ?hr ?_; (case hd => rfl); (case hg => rfl); (case hr => first | (go_simp; done) | (go_simp; rfl)); intro gb168 hg w160 hbox hb; have n0_ := Aside0.mk (Kd.R_below (Kd.R_elderB (by (with_reducible repeat (first | apply rA_ | apply rN_ | apply rD_)); exact HO147.out) gb168 (Nat.le_of_eq hg.symm)) hb); have n1_ := Aside0.mk (Kd.R_below (Kd.R_elderB (by (with_reducible repeat (first | apply rA_ | apply rN_ | apply rD_)); exact HO153.out) gb168 (Nat.le_of_eq hg.symm)) hb); have n2_ := Aside0.mk (Kd.R_below (Kd.R_elderB (by (with_reducible repeat (first | apply rA_ | apply rN_ | apply rD_)); exact HO160.out) gb168 (Nat.le_of_eq hg.symm)) hb); have n3_ := Aside0.mk (Kd.R_below (Kd.R_elderB (by (with_reducible repeat (first | apply rA_ | apply rN_ | apply rD_)); exact HO167.out) gb168 (Nat.le_of_eq hg.symm)) hb); have n4_ := Aside0.mk (bB_ (g := gb138) (o := .cells #[.string a0_0, .string a0_1, .string a0_2, .slice A0_3 l0_3.length c0_3] 35 (0, 0)) (by (with_reducible repeat (first | refine bN_ ?_ _ | refine bD_ ?_ | refine bA_ ?_ _)); exact BK138.out) hb); have n5_ := Aside0.mk (bB_ (g := gb139) (o := .cells #[.string a1_0, .string a1_1, .string a1_2, .slice A1_3 l1_3.length c1_3] 35 (0, 0)) (by (with_reducible repeat (first | refine bN_ ?_ _ | refine bD_ ?_ | refine bA_ ?_ _)); exact BK139.out) hb); have n6_ := Aside0.mk (bB_ (g := gb161) (o := .cells #[.string t155, .string t156, .string t157, .slice Ao157 t158.length co157] 40 (0, 0)) (by (with_reducible repeat (first | refine bN_ ?_ _ | refine bD_ ?_ | refine bA_ ?_ _)); exact BK161.out) hb); have n7_ := Aside0.mk (below_step (by repeat (first | (with_reducible first | exact HB.out | apply aB_ | apply pN_ | apply dB_ | refine sB_ ?_ GE138.out | refine sB_ ?_ GE139.out | refine sB_ ?_ GE161.out) | exact HB.out)) hb); have n8_ := Aside0.mk (hbox); have n9_ := Aside0.mk ((by rw [hg]; exact (below_size (by repeat (first | (with_reducible first | exact HB.out | apply aB_ | apply pN_ | apply dB_ | refine sB_ ?_ GE138.out | refine sB_ ?_ GE139.out | refine sB_ ?_ GE161.out) | exact HB.out))) : w.heap.size ≤ gb168)); have n10_ := Aside0.mk ((by rw [hg]; exact (below_size (by repeat (first | (with_reducible first | exact HB.out | apply aB_ | apply pN_ | apply dB_ | refine sB_ ?_ GE138.out | refine sB_ ?_ GE139.out | refine sB_ ?_ GE161.out) | exact HB.out))) : w.heap.size ≤ gb168)); have n11_ := Aside0.mk ((by rw [hg]; exact Nat.ne_of_lt (blk_lt (g := gb138) (o := .cells #[.string a0_0, .string a0_1, .string a0_2, .slice A0_3 l0_3.length c0_3] 35 (0, 0)) (by (with_reducible repeat (first | refine bN_ ?_ _ | refine bD_ ?_ | refine bA_ ?_ _)); exact BK138.out)) : gb138 ≠ gb168)); have n12_ := Aside0.mk ((by rw [hg]; exact Nat.ne_of_gt (blk_lt (g := gb138) (o := .cells #[.string a0_0, .string a0_1, .string a0_2, .slice A0_3 l0_3.length c0_3] 35 (0, 0)) (by (with_reducible repeat (first | refine bN_ ?_ _ | refine bD_ ?_ | refine bA_ ?_ _)); exact BK138.out)) : gb168 ≠ gb138)); have n13_ := Aside0.mk ((by rw [hg]; exact Nat.ne_of_lt (blk_lt (g := gb139) (o := .cells #[.string a1_0, .string a1_1, .string a1_2, .slice A1_3 l1_3.length c1_3] 35 (0, 0)) (by (with_reducible repeat (first | refine bN_ ?_ _ | refine bD_ ?_ | refine bA_ ?_ _)); exact BK139.out)) : gb139 ≠ gb168)); have n14_ := Aside0.mk ((by rw [hg]; exact Nat.ne_of_gt (blk_lt (g := gb139) (o := .cells #[.string a1_0, .string a1_1, .string a1_2, .slice A1_3 l1_3.length c1_3] 35 (0, 0)) (by (with_reducible repeat (first | refine bN_ ?_ _ | refine bD_ ?_ | refine bA_ ?_ _)); exact BK139.out)) : gb168 ≠ gb139)); have n15_ := Aside0.mk ((by rw [hg]; exact Nat.ne_of_lt (blk_lt (g := gb161) (o := .cells #[.string t155, .string t156, .string t157, .slice Ao157 t158.length co157] 40 (0, 0)) (by (with_reducible repeat (first | refine bN_ ?_ _ | refine bD_ ?_ | refine bA_ ?_ _)); exact BK161.out)) : gb161 ≠ gb168)); have n16_ := Aside0.mk ((by rw [hg]; exact Nat.ne_of_gt (blk_lt (g := gb161) (o := .cells #[.string t155, .string t156, .string t157, .slice Ao157 t158.length co157] 40 (0, 0)) (by (with_reducible repeat (first | refine bN_ ?_ _ | refine bD_ ?_ | refine bA_ ?_ _)); exact BK161.out)) : gb168 ≠ gb161)); clear HO147; clear HO153; clear HO160; clear HO167; clear BK138; clear BK139; clear BK161; clear HB; have HO147 := n0_; have HO153 := n1_; have HO160 := n2_; have HO167 := n3_; have BK138 := n4_; have BK139 := n5_; have BK161 := n6_; have HB := n7_; have BK168 := n8_; have GW168 := n9_; have GE168 := n10_; have NB138_168 := n11_; have NB168_138 := n12_; have NB139_168 := n13_; have NB168_139 := n14_; have NB161_168 := n15_; have NB168_161 := n16_; clear n0_ n1_ n2_ n3_ n4_ n5_ n6_ n7_ n8_ n9_ n10_ n11_ n12_ n13_ n14_ n15_ n16_; clear hb hbox hg; have hnb161 := NB168_138.out; have hnc161 := NB138_168.out; have hnb162 := NB168_139.out; have hnc162 := NB139_168.out; have hnb163 := NB168_161.out; have hnc163 := NB161_168.out; have hcz164_0 : w160.cell? ⟨gb168, 0, none⟩ = some (.string (⟨#[]⟩ : ByteArray)) := (bc_ BK168.out 0).trans rfl; have hcz164_1 : w160.cell? ⟨gb168, 1, none⟩ = some (.string (⟨#[]⟩ : ByteArray)) := (bc_ BK168.out 1).trans rfl; have hcz164_2 : w160.cell? ⟨gb168, 2, none⟩ = some (.string (⟨#[]⟩ : ByteArray)) := (bc_ BK168.out 2).trans rfl; have hcz164_3 : w160.cell? ⟨gb168, 3, none⟩ = some (.slice none 0 0) := (bc_ BK168.out 3).trans rfl; have hfz164_0 := bF_ BK168.out 0; have hfz164_1 := bF_ BK168.out 1; have hfz164_2 := bF_ BK168.out 2; have hfz164_3 := bF_ BK168.out 3; obtain ⟨Ao165, co165, eo165⟩ := Kd.R_slice HO167.out; subst eo165; have hcz166_0 : w160.cell? ⟨gb161, 0, none⟩ = some (.string t155) := (bc_ BK161.out 0).trans rfl; have hcz166_1 : w160.cell? ⟨gb161, 1, none⟩ = some (.string t156) := (bc_ BK161.out 1).trans rfl; have hcz166_2 : w160.cell? ⟨gb161, 2, none⟩ = some (.string t157) := (bc_ BK161.out 2).trans rfl; have hcz166_3 : w160.cell? ⟨gb161, 3, none⟩ = some (.slice Ao157 t158.length co157) := (bc_ BK161.out 3).trans rfl; have hfz166_0 := bF_ BK161.out 0; have hfz166_1 := bF_ BK161.out 1; have hfz166_2 := bF_ BK161.out 2; have hfz166_3 := bF_ BK161.out 3) | ((with_reducible refine gate_callee (f := 25) rfl ?_); refine goesL_ (some 31) rfl rfl Try.func25 (by kernel_rfl) rfl #[.agg #[.string t155, .string t156, .string t157, .slice Ao157 t158.length co157], .agg #[.string t162, .string t163, .string t164, .slice Ao165 t165.length co165]] rfl (by (try simp only [List.map_toArray, List.map_cons, List.map_nil]); first | done | rfl | (simp only [List.length_drop, List.length_take]; rfl)) ?_; (with_reducible refine (impl_SameNode.calls k t155 t156 t157 _ _ t158 t162 t163 t164 _ _ t165 t169 _ ?side1 ?side2 ?side3 ?side4 A24.out).mono ?_); (case side1 => refine (Kd.R_reads' (e := 40) (base := w.heap.size) (ok := fun k_ => (((((True ∧ some k_ ≠ (.slice Ao148 t145.length co148 : Value).ownBlock) ∧ some k_ ≠ (.slice Ao149 t151.length co149 : Value).ownBlock) ∧ k_ ≠ gb161) ∧ some k_ ≠ (.slice Ao165 t165.length co165 : Value).ownBlock) ∧ k_ ≠ gb168)) (n := t158.length) (c := co157) ?_).2.2; exact (by (with_reducible repeat (first | apply rA_ | apply rN_ | apply rD_)); exact (Kd.R_mono (rF_ (p := ⟨gb168, 3, none⟩) (rF_ (p := ⟨gb168, 2, none⟩) (rF_ (p := ⟨gb168, 1, none⟩) (rF_ (p := ⟨gb168, 0, none⟩) (Kd.R_mono HO160.out (fun k_ hk => (⟨hk, hk.2⟩ : _ ∧ k_ ≠ gb168))) (fun _ hk => hk.2) (.string t162)) (fun _ hk => hk.2) (.string t163)) (fun _ hk => hk.2) (.string t164)) (fun _ hk => hk.2) (.slice Ao165 t165.length co165)) (fun _ h_ => h_.1)))); (case side2 => exact (Kd.R_reads' HO160.out).2.1); (case side3 => refine (Kd.R_reads' (e := 40) (base := w.heap.size) (ok := fun k_ => (((((True ∧ some k_ ≠ (.slice Ao148 t145.length co148 : Value).ownBlock) ∧ some k_ ≠ (.slice Ao149 t151.length co149 : Value).ownBlock) ∧ some k_ ≠ (.slice Ao157 t158.length co157 : Value).ownBlock) ∧ k_ ≠ gb161) ∧ k_ ≠ gb168)) (n := t165.length) (c := co165) ?_).2.2; exact (by (with_reducible repeat (first | apply rA_ | apply rN_ | apply rD_)); exact (Kd.R_mono (rF_ (p := ⟨gb168, 3, none⟩) (rF_ (p := ⟨gb168, 2, none⟩) (rF_ (p := ⟨gb168, 1, none⟩) (rF_ (p := ⟨gb168, 0, none⟩) (Kd.R_mono HO167.out (fun k_ hk => (⟨hk, hk.2⟩ : _ ∧ k_ ≠ gb168))) (fun _ hk => hk.2) (.string t162)) (fun _ hk => hk.2) (.string t163)) (fun _ hk => hk.2) (.string t164)) (fun _ hk => hk.2) (.slice Ao165 t165.length co165)) (fun _ h_ => h_.1)))); (case side4 => exact (Kd.R_reads' HO167.out).2.1); rintro e w167 ⟨rfl, hb⟩; refine ⟨_, rfl, ?_⟩; have n0_ := Aside0.mk (Kd.R_below (by (with_reducible repeat (first | apply rA_ | apply rN_ | apply rD_)); exact (Kd.R_mono (rF_ (p := ⟨gb168, 3, none⟩) (rF_ (p := ⟨gb168, 2, none⟩) (rF_ (p := ⟨gb168, 1, none⟩) (rF_ (p := ⟨gb168, 0, none⟩) (Kd.R_mono HO147.out (fun k_ hk => (⟨hk, hk.2⟩ : _ ∧ k_ ≠ gb168))) (fun _ hk => hk.2) (.string t162)) (fun _ hk => hk.2) (.string t163)) (fun _ hk => hk.2) (.string t164)) (fun _ hk => hk.2) (.slice Ao165 t165.length co165)) (fun _ h_ => h_.1))) hb); have n1_ := Aside0.mk (Kd.R_below (by (with_reducible repeat (first | apply rA_ | apply rN_ | apply rD_)); exact (Kd.R_mono (rF_ (p := ⟨gb168, 3, none⟩) (rF_ (p := ⟨gb168, 2, none⟩) (rF_ (p := ⟨gb168, 1, none⟩) (rF_ (p := ⟨gb168, 0, none⟩) (Kd.R_mono HO153.out (fun k_ hk => (⟨hk, hk.2⟩ : _ ∧ k_ ≠ gb168))) (fun _ hk => hk.2) (.string t162)) (fun _ hk => hk.2) (.string t163)) (fun _ hk => hk.2) (.string t164)) (fun _ hk => hk.2) (.slice Ao165 t165.length co165)) (fun _ h_ => h_.1))) hb); have n2_ := Aside0.mk (Kd.R_below (by (with_reducible repeat (first | apply rA_ | apply rN_ | apply rD_)); exact (Kd.R_mono (rF_ (p := ⟨gb168, 3, none⟩) (rF_ (p := ⟨gb168, 2, none⟩) (rF_ (p := ⟨gb168, 1, none⟩) (rF_ (p := ⟨gb168, 0, none⟩) (Kd.R_mono HO160.out (fun k_ hk => (⟨hk, hk.2⟩ : _ ∧ k_ ≠ gb168))) (fun _ hk => hk.2) (.string t162)) (fun _ hk => hk.2) (.string t163)) (fun _ hk => hk.2) (.string t164)) (fun _ hk => hk.2) (.slice Ao165 t165.length co165)) (fun _ h_ => h_.1))) hb); have n3_ := Aside0.mk (Kd.R_below (by (with_reducible repeat (first | apply rA_ | apply rN_ | apply rD_)); exact (Kd.R_mono (rF_ (p := ⟨gb168, 3, none⟩) (rF_ (p := ⟨gb168, 2, none⟩) (rF_ (p := ⟨gb168, 1, none⟩) (rF_ (p := ⟨gb168, 0, none⟩) (Kd.R_mono HO167.out (fun k_ hk => (⟨hk, hk.2⟩ : _ ∧ k_ ≠ gb168))) (fun _ hk => hk.2) (.string t162)) (fun _ hk => hk.2) (.string t163)) (fun _ hk => hk.2) (.string t164)) (fun _ hk => hk.2) (.slice Ao165 t165.length co165)) (fun _ h_ => h_.1))) hb); have n4_ := Aside0.mk (bB_ (g := gb138) (o := .cells #[.string a0_0, .string a0_1, .string a0_2, .slice A0_3 l0_3.length c0_3] 35 (0, 0)) (by (with_reducible repeat (first | refine bN_ ?_ _ | refine bD_ ?_ | refine bA_ ?_ _)); refine blk_far ?_ NB138_168.out _; (with_reducible repeat (first | refine bN_ ?_ _ | refine bD_ ?_ | refine bA_ ?_ _)); refine blk_far ?_ NB138_168.out _; (with_reducible repeat (first | refine bN_ ?_ _ | refine bD_ ?_ | refine bA_ ?_ _)); refine blk_far ?_ NB138_168.out _; (with_reducible repeat (first | refine bN_ ?_ _ | refine bD_ ?_ | refine bA_ ?_ _)); refine blk_far ?_ NB138_168.out _; (with_reducible repeat (first | refine bN_ ?_ _ | refine bD_ ?_ | refine bA_ ?_ _)); exact BK138.out) hb); have n5_ := Aside0.mk (bB_ (g := gb139) (o := .cells #[.string a1_0, .string a1_1, .string a1_2, .slice A1_3 l1_3.length c1_3] 35 (0, 0)) (by (with_reducible repeat (first | refine bN_ ?_ _ | refine bD_ ?_ | refine bA_ ?_ _)); refine blk_far ?_ NB139_168.out _; (with_reducible repeat (first | refine bN_ ?_ _ | refine bD_ ?_ | refine bA_ ?_ _)); refine blk_far ?_ NB139_168.out _; (with_reducible repeat (first | refine bN_ ?_ _ | refine bD_ ?_ | refine bA_ ?_ _)); refine blk_far ?_ NB139_168.out _; (with_reducible repeat (first | refine bN_ ?_ _ | refine bD_ ?_ | refine bA_ ?_ _)); refine blk_far ?_ NB139_168.out _; (with_reducible repeat (first | refine bN_ ?_ _ | refine bD_ ?_ | refine bA_ ?_ _)); exact BK139.out) hb); have n6_ := Aside0.mk (bB_ (g := gb161) (o := .cells #[.string t155, .string t156, .string t157, .slice Ao157 t158.length co157] 40 (0, 0)) (by (with_reducible repeat (first | refine bN_ ?_ _ | refine bD_ ?_ | refine bA_ ?_ _)); refine blk_far ?_ NB161_168.out _; (with_reducible repeat (first | refine bN_ ?_ _ | refine bD_ ?_ | refine bA_ ?_ _)); refine blk_far ?_ NB161_168.out _; (with_reducible repeat (first | refine bN_ ?_ _ | refine bD_ ?_ | refine bA_ ?_ _)); refine blk_far ?_ NB161_168.out _; (with_reducible repeat (first | refine bN_ ?_ _ | refine bD_ ?_ | refine bA_ ?_ _)); refine blk_far ?_ NB161_168.out _; (with_reducible repeat (first | refine bN_ ?_ _ | refine bD_ ?_ | refine bA_ ?_ _)); exact BK161.out) hb); have n7_ := Aside0.mk (bB_ (g := gb168) (o := .cells #[.string t162, .string t163, .string t164, .slice Ao165 t165.length co165] 40 (0, 0)) (by (with_reducible repeat (first | refine bN_ ?_ _ | refine bD_ ?_ | refine bA_ ?_ _)); refine blk_put (cs := #[.string t162, .string t163, .string t164, .slice none 0 0]) ?_ 3 _ rfl; (with_reducible repeat (first | refine bN_ ?_ _ | refine bD_ ?_ | refine bA_ ?_ _)); refine blk_put (cs := #[.string t162, .string t163, .string (⟨#[]⟩ : ByteArray), .slice none 0 0]) ?_ 2 _ rfl; (with_reducible repeat (first | refine bN_ ?_ _ | refine bD_ ?_ | refine bA_ ?_ _)); refine blk_put (cs := #[.string t162, .string (⟨#[]⟩ : ByteArray), .string (⟨#[]⟩ : ByteArray), .slice none 0 0]) ?_ 1 _ rfl; (with_reducible repeat (first | refine bN_ ?_ _ | refine bD_ ?_ | refine bA_ ?_ _)); refine blk_put (cs := #[.string (⟨#[]⟩ : ByteArray), .string (⟨#[]⟩ : ByteArray), .string (⟨#[]⟩ : ByteArray), .slice none 0 0]) ?_ 0 _ rfl; (with_reducible repeat (first | refine bN_ ?_ _ | refine bD_ ?_ | refine bA_ ?_ _)); exact BK168.out) hb); have n8_ := Aside0.mk (below_step (by repeat (first | (with_reducible first | exact HB.out | apply aB_ | apply pN_ | apply dB_ | refine sB_ ?_ GE138.out | refine sB_ ?_ GE139.out | refine sB_ ?_ GE161.out | refine sB_ ?_ GE168.out) | exact HB.out)) hb); clear HO147; clear HO153; clear HO160; clear HO167; clear BK138; clear BK139; clear BK161; clear BK168; clear HB; have HO147 := n0_; have HO153 := n1_; have HO160 := n2_; have HO167 := n3_; have BK138 := n4_; have BK139 := n5_; have BK161 := n6_; have BK168 := n7_; have HB := n8_; clear n0_ n1_ n2_ n3_ n4_ n5_ n6_ n7_ n8_; (try clear hb); (try clear hb2); (try clear hk); (try clear hi)))
     have n0_ := Aside0.mk (rD_ HO147.out)
     have n1_ := Aside0.mk (rD_ HO153.out)
     have n2_ := Aside0.mk (rD_ HO160.out)
     have n3_ := Aside0.mk (rD_ HO167.out)
     have n4_ := Aside0.mk (bD_ BK138.out)
     have n5_ := Aside0.mk (bD_ BK139.out)
     have n6_ := Aside0.mk (bD_ BK161.out)
     have n7_ := Aside0.mk (bD_ BK168.out)
     have n8_ := Aside0.mk (dB_ HB.out)
     clear HO147
     clear HO153
     clear HO160
     clear HO167
     clear BK138
     clear BK139
     clear BK161
     clear BK168
     clear HB
     have HO147 := n0_
     have HO153 := n1_
     have HO160 := n2_
     have HO167 := n3_
     have BK138 := n4_
     have BK139 := n5_
     have BK161 := n6_
     have BK168 := n7_
     have HB := n8_
     clear n0_ n1_ n2_ n3_ n4_ n5_ n6_ n7_ n8_
     refine start_ (n := 5) (S := fun w' => w'.cell? ⟨gb161, 0, none⟩ = some (.string t155) ∧ w'.cell? ⟨gb161, 1, none⟩ = some (.string t156) ∧ w'.cell? ⟨gb161, 2, none⟩ = some (.string t157) ∧ w'.cell? ⟨gb161, 3, none⟩ = some (.slice Ao157 t158.length co157) ∧ w'.cell? ⟨gb138, 0, none⟩ = some (.string a0_0) ∧ w'.cell? ⟨gb138, 1, none⟩ = some (.string a0_1) ∧ w'.cell? ⟨gb138, 2, none⟩ = some (.string a0_2) ∧ w'.cell? ⟨gb138, 3, none⟩ = some (.slice A0_3 l0_3.length c0_3)) (ds := []) #[false, false, false, false, false] (by kernel_rfl) rfl rfl ⟨(bc_ BK161.out 0).trans rfl, (bc_ BK161.out 1).trans rfl, (bc_ BK161.out 2).trans rfl, (bc_ BK161.out 3).trans rfl, (bc_ BK138.out 0).trans rfl, (bc_ BK138.out 1).trans rfl, (bc_ BK138.out 2).trans rfl, (bc_ BK138.out 3).trans rfl⟩ (fun hHeld => ?_)
     generalize w167.drew = w168 at HO147 HO153 HO160 HO167 BK138 BK139 BK161 BK168 HB hHeld ⊢
     refine take_ (i := 0) (N := some 35) (v := ?_) (a' := ?_) #[true, false, false, false, false] rfl rfl (by kernel_rfl) (fun _ _ _ h => h) (Or.inl ⟨by rfl, ?_⟩) hHeld ?_ ?_
     rotate_left
     ·rintro w' ⟨s0, s1, s2, s3, s4, s5, s6, s7⟩
      go_simp
      with_reducible rfl
     rotate_left
     ·simp only [Act.put, List.setIfInBounds_toArray, List.set_cons_zero, List.set_cons_succ, i64_w, i32_w]
      rfl
     refine take_ (i := 1) (N := some 36) (v := ?_) (a' := ?_) #[true, true, false, false, false] rfl rfl (by kernel_rfl) (fun _ _ _ h => h) (Or.inl ⟨by rfl, ?_⟩) hHeld ?_ ?_
     rotate_left
     ·rintro w' ⟨s0, s1, s2, s3, s4, s5, s6, s7⟩
      go_simp
      with_reducible rfl
     rotate_left
     ·simp only [Act.put, List.setIfInBounds_toArray, List.set_cons_zero, List.set_cons_succ, i64_w, i32_w]
      rfl
     refine one_ (i := 2) (N := some 37) #[true, true, true, false, false] rfl rfl (by kernel_rfl) (by decide) (fun K hK => ?_)
     refine goes_ Try.func24 (by kernel_rfl) rfl #[.agg #[.string a0_0, .string a0_1, .string a0_2, .slice A0_3 l0_3.length c0_3]] (by rfl) rfl rfl (by (try simp only [List.map_toArray, List.map_cons, List.map_nil]); first | done | rfl | (simp only [List.length_drop, List.length_take]; rfl)) ?_
     with_reducible refine (laws_toNode.calls k a0_0 a0_1 a0_2 _ _ l0_3 t170 t171 t172 t173 _ ?side1 ?side2 A56.out).mono ?_
     (case side1 => repeat (first | exact (Kd.C_below HR0_3.out HB.out) | (with_reducible refine Kd.C_alloc ?_ _) | (with_reducible refine Kd.C_drewN ?_ _) | (with_reducible refine Kd.C_drew ?_)))
     (case side2 => exact HC0_3.out)
     rintro e w169 ⟨v174, rfl, ho0, hb⟩
     refine ⟨_, rfl, ?_⟩
     have n0_ := Aside0.mk (Kd.R_elder' (by (with_reducible repeat (first | apply rA_ | apply rN_ | apply rD_)); exact HO147.out) (Kd.R_base ho0) hb)
     have n1_ := Aside0.mk (Kd.R_elder' (by (with_reducible repeat (first | apply rA_ | apply rN_ | apply rD_)); exact HO153.out) (Kd.R_base ho0) hb)
     have n2_ := Aside0.mk (Kd.R_elder' (by (with_reducible repeat (first | apply rA_ | apply rN_ | apply rD_)); exact HO160.out) (Kd.R_base ho0) hb)
     have n3_ := Aside0.mk (Kd.R_elder' (by (with_reducible repeat (first | apply rA_ | apply rN_ | apply rD_)); exact HO167.out) (Kd.R_base ho0) hb)
     have n4_ := Aside0.mk (Kd.R_lower (Kd.R_newB (Kd.R_newB (Kd.R_new' (Kd.R_new' (Kd.R_new' (Kd.R_new' ho0 (Kd.R_lt (by (with_reducible repeat (first | apply rA_ | apply rN_ | apply rD_)); exact HO147.out))) (Kd.R_lt (by (with_reducible repeat (first | apply rA_ | apply rN_ | apply rD_)); exact HO153.out))) (Kd.R_lt (by (with_reducible repeat (first | apply rA_ | apply rN_ | apply rD_)); exact HO160.out))) (Kd.R_lt (by (with_reducible repeat (first | apply rA_ | apply rN_ | apply rD_)); exact HO167.out))) (g := gb161) (o := .cells #[.string t155, .string t156, .string t157, .slice Ao157 t158.length co157] 40 (0, 0)) (by (with_reducible repeat (first | refine bN_ ?_ _ | refine bD_ ?_ | refine bA_ ?_ _)); exact BK161.out)) (g := gb168) (o := .cells #[.string t162, .string t163, .string t164, .slice Ao165 t165.length co165] 40 (0, 0)) (by (with_reducible repeat (first | refine bN_ ?_ _ | refine bD_ ?_ | refine bA_ ?_ _)); exact BK168.out)) (below_size (by repeat (first | (with_reducible first | exact HB.out | apply aB_ | apply pN_ | apply dB_ | refine sB_ ?_ GE138.out | refine sB_ ?_ GE139.out | refine sB_ ?_ GE161.out | refine sB_ ?_ GE168.out) | exact HB.out))))
     have n5_ := Aside0.mk (bB_ (g := gb138) (o := .cells #[.string a0_0, .string a0_1, .string a0_2, .slice A0_3 l0_3.length c0_3] 35 (0, 0)) (by (with_reducible repeat (first | refine bN_ ?_ _ | refine bD_ ?_ | refine bA_ ?_ _)); exact BK138.out) hb)
     have n6_ := Aside0.mk (bB_ (g := gb139) (o := .cells #[.string a1_0, .string a1_1, .string a1_2, .slice A1_3 l1_3.length c1_3] 35 (0, 0)) (by (with_reducible repeat (first | refine bN_ ?_ _ | refine bD_ ?_ | refine bA_ ?_ _)); exact BK139.out) hb)
     have n7_ := Aside0.mk (bB_ (g := gb161) (o := .cells #[.string t155, .string t156, .string t157, .slice Ao157 t158.length co157] 40 (0, 0)) (by (with_reducible repeat (first | refine bN_ ?_ _ | refine bD_ ?_ | refine bA_ ?_ _)); exact BK161.out) hb)
     have n8_ := Aside0.mk (bB_ (g := gb168) (o := .cells #[.string t162, .string t163, .string t164, .slice Ao165 t165.length co165] 40 (0, 0)) (by (with_reducible repeat (first | refine bN_ ?_ _ | refine bD_ ?_ | refine bA_ ?_ _)); exact BK168.out) hb)
     have n9_ := Aside0.mk (below_step (by repeat (first | (with_reducible first | exact HB.out | apply aB_ | apply pN_ | apply dB_ | refine sB_ ?_ GE138.out | refine sB_ ?_ GE139.out | refine sB_ ?_ GE161.out | refine sB_ ?_ GE168.out) | exact HB.out)) hb)
     clear HO147
     clear HO153
     clear HO160
     clear HO167
     clear BK138
     clear BK139
     clear BK161
     clear BK168
     clear HB
     have HO147 := n0_
     have HO153 := n1_
     have HO160 := n2_
     have HO167 := n3_
     have HO175 := n4_
     have BK138 := n5_
     have BK139 := n6_
     have BK161 := n7_
     have BK168 := n8_
     have HB := n9_
     clear n0_ n1_ n2_ n3_ n4_ n5_ n6_ n7_ n8_ n9_
     (try clear hb)
     (try clear hb2)
     (try clear hk)
     (try clear hi)
     (try clear ho0)
     obtain ⟨Ao170, co170, eo170⟩ := Kd.R_slice HO175.out
     (first | subst eo170 | (injection eo170 with f1_ f2_ f3_; have f4_ := f1_.symm; have f5_ := f3_.symm; clear f1_ f2_ f3_; subst f4_; subst f5_))
     refine hK.out _ _ ⟨(bc_ BK161.out 0).trans rfl, (bc_ BK161.out 1).trans rfl, (bc_ BK161.out 2).trans rfl, (bc_ BK161.out 3).trans rfl, (bc_ BK138.out 0).trans rfl, (bc_ BK138.out 1).trans rfl, (bc_ BK138.out 2).trans rfl, (bc_ BK138.out 3).trans rfl⟩ (fun hHeld => ?_)
     clear hK K
     refine norm_ (a' := ?_) ?_ ?_
     rotate_left
     ·show Act.put _ (some 37) _ = _
      simp only [Act.put, List.setIfInBounds_toArray, List.set_cons_zero, List.set_cons_succ, i64_w, i32_w]
      rfl
     refine one_ (i := 3) (N := some 38) #[true, true, true, true, false] rfl rfl (by kernel_rfl) (by decide) (fun K hK => ?_)
     refine goes_ Try.func26 (by kernel_rfl) rfl #[.agg #[.string t155, .string t156, .string t157, .slice Ao157 t158.length co157], .agg #[.string t170, .string t171, .string t172, .slice Ao170 t173.length co170]] (by rfl) rfl rfl (by (try simp only [List.map_toArray, List.map_cons, List.map_nil]); first | done | rfl | (simp only [List.length_drop, List.length_take]; rfl)) ?_
     with_reducible refine (laws_eqNode.calls k t155 t156 t157 _ _ t158 t170 t171 t172 _ _ t173 false _ ?side1 ?side2 ?side3 ?side4 A57.out).mono ?_
     (case side1 => repeat (first | exact (Kd.R_reads' HO160.out).2.2 | (with_reducible refine Kd.C_alloc ?_ _) | (with_reducible refine Kd.C_drewN ?_ _) | (with_reducible refine Kd.C_drew ?_)))
     (case side2 => exact (Kd.R_reads' HO160.out).2.1)
     (case side3 => repeat (first | exact (Kd.R_reads' HO175.out).2.2 | (with_reducible refine Kd.C_alloc ?_ _) | (with_reducible refine Kd.C_drewN ?_ _) | (with_reducible refine Kd.C_drew ?_)))
     (case side4 => exact (Kd.R_reads' HO175.out).2.1)
     rintro e w171 ⟨rfl, hb⟩
     refine ⟨_, rfl, ?_⟩
     have n0_ := Aside0.mk (Kd.R_below (by (with_reducible repeat (first | apply rA_ | apply rN_ | apply rD_)); exact HO147.out) hb)
     have n1_ := Aside0.mk (Kd.R_below (by (with_reducible repeat (first | apply rA_ | apply rN_ | apply rD_)); exact HO153.out) hb)
     have n2_ := Aside0.mk (Kd.R_below (by (with_reducible repeat (first | apply rA_ | apply rN_ | apply rD_)); exact HO160.out) hb)
     have n3_ := Aside0.mk (Kd.R_below (by (with_reducible repeat (first | apply rA_ | apply rN_ | apply rD_)); exact HO167.out) hb)
     have n4_ := Aside0.mk (Kd.R_below (by (with_reducible repeat (first | apply rA_ | apply rN_ | apply rD_)); exact HO175.out) hb)
     have n5_ := Aside0.mk (bB_ (g := gb138) (o := .cells #[.string a0_0, .string a0_1, .string a0_2, .slice A0_3 l0_3.length c0_3] 35 (0, 0)) (by (with_reducible repeat (first | refine bN_ ?_ _ | refine bD_ ?_ | refine bA_ ?_ _)); exact BK138.out) hb)
     have n6_ := Aside0.mk (bB_ (g := gb139) (o := .cells #[.string a1_0, .string a1_1, .string a1_2, .slice A1_3 l1_3.length c1_3] 35 (0, 0)) (by (with_reducible repeat (first | refine bN_ ?_ _ | refine bD_ ?_ | refine bA_ ?_ _)); exact BK139.out) hb)
     have n7_ := Aside0.mk (bB_ (g := gb161) (o := .cells #[.string t155, .string t156, .string t157, .slice Ao157 t158.length co157] 40 (0, 0)) (by (with_reducible repeat (first | refine bN_ ?_ _ | refine bD_ ?_ | refine bA_ ?_ _)); exact BK161.out) hb)
     have n8_ := Aside0.mk (bB_ (g := gb168) (o := .cells #[.string t162, .string t163, .string t164, .slice Ao165 t165.length co165] 40 (0, 0)) (by (with_reducible repeat (first | refine bN_ ?_ _ | refine bD_ ?_ | refine bA_ ?_ _)); exact BK168.out) hb)
     have n9_ := Aside0.mk (below_step (by repeat (first | (with_reducible first | exact HB.out | apply aB_ | apply pN_ | apply dB_ | refine sB_ ?_ GE138.out | refine sB_ ?_ GE139.out | refine sB_ ?_ GE161.out | refine sB_ ?_ GE168.out) | exact HB.out)) hb)
     clear HO147
     clear HO153
     clear HO160
     clear HO167
     clear HO175
     clear BK138
     clear BK139
     clear BK161
     clear BK168
     clear HB
     have HO147 := n0_
     have HO153 := n1_
     have HO160 := n2_
     have HO167 := n3_
     have HO175 := n4_
     have BK138 := n5_
     have BK139 := n6_
     have BK161 := n7_
     have BK168 := n8_
     have HB := n9_
     clear n0_ n1_ n2_ n3_ n4_ n5_ n6_ n7_ n8_ n9_
     (try clear hb)
     (try clear hb2)
     (try clear hk)
     (try clear hi)
     refine hK.out _ _ ⟨(bc_ BK161.out 0).trans rfl, (bc_ BK161.out 1).trans rfl, (bc_ BK161.out 2).trans rfl, (bc_ BK161.out 3).trans rfl, (bc_ BK138.out 0).trans rfl, (bc_ BK138.out 1).trans rfl, (bc_ BK138.out 2).trans rfl, (bc_ BK138.out 3).trans rfl⟩ (fun hHeld => ?_)
     clear hK K
     refine norm_ (a' := ?_) ?_ ?_
     rotate_left
     ·show Act.put _ (some 38) _ = _
      simp only [Act.put, List.setIfInBounds_toArray, List.set_cons_zero, List.set_cons_succ, i64_w, i32_w]
      rfl
     refine pure_ (i := 4) (N := some 39) (v := ?_) (a' := ?_) #[true, true, true, true, true] rfl rfl (by kernel_rfl) (fun _ _ _ h => h) (Or.inl ⟨by rfl, ?_⟩) ?_ ?_
     rotate_left
     ·intro w'
      go_simp
      with_reducible rfl
     rotate_left
     ·simp only [Act.put, List.setIfInBounds_toArray, List.set_cons_zero, List.set_cons_succ, i64_w, i32_w]
      rfl
     refine done_ (by kernel_rfl) ?_
     try go_wp2
     go_ret
     exact ⟨by first | rfl | (simp [errW_none, errW_some] <;> rfl) | (simp [*, errW_none, errW_some] <;> rfl), by repeat (first | (with_reducible first | exact HB.out | apply aB_ | apply pN_ | apply dB_ | refine sB_ ?_ GE138.out | refine sB_ ?_ GE139.out | refine sB_ ?_ GE161.out | refine sB_ ?_ GE168.out) | exact HB.out)⟩

def B35 : Nat → S35 → Prop
 | 0, _ => True
 | n_ + 1, x => (x.f0.size ≤ 9223372036854775807) ∧ (x.f1.size ≤ 9223372036854775807) ∧ (x.f2.size ≤ 9223372036854775807) ∧ (x.f3.length ≤ 9223372036854775807 ∧ ∀ y ∈ x.f3, B35 n_ y)

/-- THE ONE PURE STATEMENT of laws_FnExactSameNode: yours. -/
def laws_FnExactSameNode.Pure : Prop := ∀ (a0_0 : ByteArray) (a0_1 : ByteArray) (a0_2 : ByteArray) (l0_3 : List (S35)) (a1_0 : ByteArray) (a1_1 : ByteArray) (a1_2 : ByteArray) (l1_3 : List (S35)), (a0_0.size ≤ 9223372036854775807) → (a0_1.size ≤ 9223372036854775807) → (a0_2.size ≤ 9223372036854775807) → (l0_3.length ≤ 9223372036854775807 ∧ ∀ x ∈ l0_3, ∀ n_ : Nat, B35 n_ x) → (a1_0.size ≤ 9223372036854775807) → (a1_1.size ≤ 9223372036854775807) → (a1_2.size ≤ 9223372036854775807) → (l1_3.length ≤ 9223372036854775807 ∧ ∀ x ∈ l1_3, ∀ n_ : Nat, B35 n_ x) → ∃ k, laws_FnExactSameNode.f k a0_0 a0_1 a0_2 l0_3 a1_0 a1_1 a1_2 l1_3 = some true
theorem laws_FnExactSameNode.walk (P : laws_FnExactSameNode.Pure) (a0_0 : ByteArray) (a0_1 : ByteArray) (a0_2 : ByteArray) (A0_3 : Option Addr) (c0_3 : Nat) (l0_3 : List (S35)) (a1_0 : ByteArray) (a1_1 : ByteArray) (a1_2 : ByteArray) (A1_3 : Option Addr) (c1_3 : Nat) (l1_3 : List (S35)) (w : World) (hr0_3 : Kd.C k35 w A0_3 l0_3.length l0_3) (hc0_3 : l0_3.length ≤ c0_3) (hr1_3 : Kd.C k35 w A1_3 l1_3.length l1_3) (hc1_3 : l1_3.length ≤ c1_3) (w0 : (a0_0.size ≤ 9223372036854775807)) (w1 : (a0_1.size ≤ 9223372036854775807)) (w2 : (a0_2.size ≤ 9223372036854775807)) (w3 : (l0_3.length ≤ 9223372036854775807 ∧ ∀ x ∈ l0_3, ∀ n_ : Nat, B35 n_ x)) (w4 : (a1_0.size ≤ 9223372036854775807)) (w5 : (a1_1.size ≤ 9223372036854775807)) (w6 : (a1_2.size ≤ 9223372036854775807)) (w7 : (l1_3.length ≤ 9223372036854775807 ∧ ∀ x ∈ l1_3, ∀ n_ : Nat, B35 n_ x)) :
  Calls Try.prog 5 #[.agg #[.string a0_0, .string a0_1, .string a0_2, .slice A0_3 l0_3.length c0_3], .agg #[.string a1_0, .string a1_1, .string a1_2, .slice A1_3 l1_3.length c1_3]] w fun e w' => e = .returned (.bool true) ∧ Below w.heap.size w w' := by
 obtain ⟨k, h⟩ := P a0_0 a0_1 a0_2 l0_3 a1_0 a1_1 a1_2 l1_3 w0 w1 w2 w3 w4 w5 w6 w7
 refine (laws_FnExactSameNode.calls k a0_0 a0_1 a0_2 _ _ l0_3 a1_0 a1_1 a1_2 _ _ l1_3 true w hr0_3 hc0_3 hr1_3 hc1_3 h).mono ?_
 rintro e w' ⟨rfl, hd⟩
 exact ⟨rfl, hd⟩

end Go.Proofs.Ytgfpiijpgpkoiaa.GFnExactSameNode
